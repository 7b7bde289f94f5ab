import PyProof.Rows.All
import Wide.All
import OpenK.AllK
import Wide.FinOn
import PySem.Challenge.RW_np0089_01
import PyProof.Rows.ZipForRows
import PyProof.StationsW
import PyProof.Rows.BitMore
import KE.KSortedL
import KE.KUnpack
import Lean
import PySem.Challenge.RW_np0089_01
open PySem PySem.W PySem.Calls PySem.Spec PyProof.Rows
set_option Elab.async false
set_option linter.all false
set_option genInjectivity false
set_option genSizeOf false
set_option maxRecDepth 100000
set_option maxHeartbeats 0
namespace Mine
theorem spare : PySem.Manifest.plain? = PySem.Manifest.plain? := rfl
section
open PySem.Manifest
name_quick tw13459420646699366527 for plain? by spare
name_quick tw10577563604825139066 for plain? by spare
name_quick tw8075568018651887793 for plain? by spare
name_quick tw2555720134141793883 for plain? by spare
name_quick tw15879502402284234768 for plain? by spare
name_quick tw16614869545531656006 for plain? by spare
name_quick tw13031314298763728631 for plain? by spare
name_quick tw14325701944645716230 for plain? by spare
name_quick tw14979626087600564940 for plain? by spare
name_quick tw6730943924577891300 for plain? by spare
name_quick tw16719470871035062505 for plain? by spare
name_quick tw16705588012109328328 for plain? by spare
name_quick tw5557055217656661889 for plain? by spare
name_quick tw1339427327865710234 for plain? by spare
name_quick tw6889808747069210229 for plain? by spare
name_quick tw12905708269229584271 for plain? by spare
name_quick tw3093689853209987427 for plain? by spare
name_quick tw17815586953681464072 for plain? by spare
name_quick tw3797612339304411714 for plain? by spare
name_quick tw7733015712792483723 for plain? by spare
name_quick tw1189734492583310 for plain? by spare
name_quick tw7131626054202286345 for plain? by spare
name_quick tw9976188549184207836 for plain? by spare
name_quick tw900987618015113924 for plain? by spare
name_quick tw4786733405619832003 for plain? by spare
name_quick tw4278798014809849964 for plain? by spare
name_quick tw7483462131439158144 for plain? by spare
name_quick tw9305782018832362445 for plain? by spare
name_quick tw10919533547850550483 for plain? by spare
name_quick tw4042386549635913901 for plain? by spare
name_quick tw4091194055036891139 for plain? by spare
name_quick tw7244113946720332995 for plain? by spare
name_quick tw8400853705098224536 for plain? by spare
name_quick tw3915923715500556073 for plain? by spare
name_quick tw4318056027017086478 for plain? by spare
name_quick tw10058976618658966374 for plain? by spare
name_quick tw9552468772387799933 for plain? by spare
name_quick tw7299303143086499733 for plain? by spare
name_quick tw7619357645376055252 for plain? by spare
name_quick tw2759451637364818457 for plain? by spare
name_quick tw4388067698380316889 for plain? by spare
name_quick tw15773981995205291829 for plain? by spare
name_quick tw9236875199018929784 for plain? by spare
name_quick tw3527409393049130627 for plain? by spare
name_quick tw5386766301290243201 for plain? by spare
name_quick tw921073385446354868 for plain? by spare
name_quick tw2571919107429820419 for plain? by spare
name_quick tw6607189417530752870 for plain? by spare
name_quick tw14907048974825807369 for plain? by spare
name_quick tw14210447440969649564 for plain? by spare
name_quick tw10650810973499830745 for plain? by spare
name_quick tw2532725972614424836 for plain? by spare
name_quick tw4275521005467322725 for plain? by spare
name_quick tw16437185098154296904 for plain? by spare
name_quick tw11161088081135249708 for plain? by spare
name_quick tw6434265647005701932 for plain? by spare
name_quick tw1210750091971509897 for plain? by spare
name_quick tw16758808235637498351 for plain? by spare
name_quick tw607167704815816724 for plain? by spare
name_quick tw13512673800721320934 for plain? by spare
name_quick tw13746126617404028095 for plain? by spare
name_quick tw15490439104401381959 for plain? by spare
name_quick tw17429684086410527887 for plain? by spare
name_quick tw8686526503394165142 for plain? by spare
name_quick tw11462045893675790159 for plain? by spare
name_quick tw387338674003428930 for plain? by spare
name_quick tw1320183511955256522 for plain? by spare
name_quick tw10938465397075749097 for plain? by spare
name_quick tw7783732958741208154 for plain? by spare
name_quick tw16645262185327669138 for plain? by spare
name_quick tw1379578315556383370 for plain? by spare
name_quick tw2078703811421203504 for plain? by spare
name_quick tw1402947280878808549 for plain? by spare
name_quick tw11985326045990495214 for plain? by spare
name_quick tw3740020263889925745 for plain? by spare
name_quick tw6792406925840432001 for plain? by spare
name_quick tw10500077913531017323 for plain? by spare
name_quick tw4172830789200971933 for plain? by spare
name_quick tw10073347824450446311 for plain? by spare
name_quick tw6125931036764729998 for plain? by spare
name_quick tw6580340599500149305 for plain? by spare
name_quick tw11518781747449614426 for plain? by spare
name_quick tw10346894026039390216 for plain? by spare
name_quick tw4748654258956052638 for plain? by spare
name_quick tw17244072584429378644 for plain? by spare
name_quick tw5248340912204065574 for plain? by spare
name_quick tw558745408833754511 for plain? by spare
name_quick tw4525517667737911620 for plain? by spare
name_quick tw17679261114430710190 for plain? by spare
name_quick tw13169248704851481478 for plain? by spare
name_quick tw3094477031063562474 for plain? by spare
name_quick tw4302124980754421698 for plain? by spare
name_quick tw5076957145309523181 for plain? by spare
name_quick tw8620020772036689432 for plain? by spare
name_quick tw16406328271908756883 for plain? by spare
name_quick tw3768068617246420682 for plain? by spare
name_quick tw2334299552400917057 for plain? by spare
name_quick tw5925582254088234700 for plain? by spare
name_quick tw704327219915372674 for plain? by spare
name_quick tw3952652319720093869 for plain? by spare
name_quick tw11452132507678324671 for plain? by spare
name_quick tw774047393022817027 for plain? by spare
name_quick tw9136488742655976645 for plain? by spare
name_quick tw3118938333895590913 for plain? by spare
name_quick tw3856783459128436802 for plain? by spare
name_quick tw17111948838632640456 for plain? by spare
name_quick tw13871001218405608335 for plain? by spare
name_quick tw11625766737575182897 for plain? by spare
name_quick tw8180830640274347804 for plain? by spare
name_quick tw12359285113459375979 for plain? by spare
name_quick tw15894407043143930727 for plain? by spare
name_quick tw13314330512976039754 for plain? by spare
name_quick tw14821650378409806113 for plain? by spare
name_quick tw13145125596335152023 for plain? by spare
name_quick tw7299951869573292228 for plain? by spare
name_quick tw10470071008263537045 for plain? by spare
name_quick tw7581352650102555174 for plain? by spare
name_quick tw14023627001141898710 for plain? by spare
name_quick tw8902219603052485911 for plain? by spare
name_quick tw15059462757989803610 for plain? by spare
name_quick tw17300597898927385350 for plain? by spare
name_quick tw347637069881736656 for plain? by spare
name_quick tw12731603968600162155 for plain? by spare
name_quick tw662354867322794072 for plain? by spare
name_quick tw14433975572909055671 for plain? by spare
name_quick tw5565278806992967083 for plain? by spare
name_quick tw3264259588550801142 for plain? by spare
name_quick tw12392613427281201732 for plain? by spare
name_quick tw13551572312386263098 for plain? by spare
name_quick tw10205541121877940668 for plain? by spare
name_quick tw1749818173716722547 for plain? by spare
name_quick tw1772237422875290029 for plain? by spare
name_quick tw12177639751122801600 for plain? by spare
name_quick tw12981051755390344553 for plain? by spare
name_quick tw4978915544186085027 for plain? by spare
name_quick tw14185684948912167051 for plain? by spare
name_quick tw4679858250743294509 for plain? by spare
name_quick tw4824431525194463578 for plain? by spare
name_quick tw5357591511691535388 for plain? by spare
name_quick tw13036272033356848781 for plain? by spare
name_quick tw17045043414572947948 for plain? by spare
name_quick tw9794667896261083176 for plain? by spare
name_quick tw7074795694173733578 for plain? by spare
name_quick tw18263319221461684349 for plain? by spare
name_quick tw12809422525583811893 for plain? by spare
name_quick tw18011898689540126615 for plain? by spare
name_quick tw7670514497116975361 for plain? by spare
name_quick tw3619232141914619222 for plain? by spare
name_quick tw13180171748994924942 for plain? by spare
name_quick tw5345256250457102556 for plain? by spare
name_quick tw12898947447245864913 for plain? by spare
name_quick tw13480552361792772618 for plain? by spare
name_quick tw11186114360453789277 for plain? by spare
name_quick tw2862820112641550484 for plain? by spare
name_quick tw6004533443673955352 for plain? by spare
name_quick tw6683783046931543321 for plain? by spare
name_quick tw6135381517318000843 for plain? by spare
name_quick tw15263041282635125899 for plain? by spare
name_quick tw12635813782599140982 for plain? by spare
name_quick tw1617757218408452269 for plain? by spare
name_quick tw6132934438814934913 for plain? by spare
name_quick tw16741492637210864865 for plain? by spare
name_quick tw16145008321745377990 for plain? by spare
name_quick tw14427280190107063356 for plain? by spare
name_quick tw7618406622816332465 for plain? by spare
name_quick tw16947794391021106201 for plain? by spare
name_quick tw17001327861769816259 for plain? by spare
name_quick tw12825359941727978080 for plain? by spare
name_quick tw2506853364499732696 for plain? by spare
name_quick tw2711585505577850959 for plain? by spare
name_quick tw5228443966233409354 for plain? by spare
name_quick tw1962928258387122110 for plain? by spare
name_quick tw13987355940573415152 for plain? by spare
name_quick tw9315938663221665524 for plain? by spare
name_quick tw12290603225136948437 for plain? by spare
name_quick tw8704618095886561957 for plain? by spare
name_quick tw17394056326795013819 for plain? by spare
name_quick tw1401972060568974870 for plain? by spare
name_quick tw16643706677886111943 for plain? by spare
name_quick tw14981143343336467331 for plain? by spare
name_quick tw17803129079492736432 for plain? by spare
name_quick tw3976722010076183465 for plain? by spare
name_quick tw17476080006546285661 for plain? by spare
name_quick tw16846860572762119324 for plain? by spare
name_quick tw8017206721242287953 for plain? by spare
name_quick tw16413264400604254196 for plain? by spare
name_quick tw7009043117176579089 for plain? by spare
name_quick tw9931943479562821362 for plain? by spare
name_quick tw10314498396905981064 for plain? by spare
name_quick tw17069979004554194336 for plain? by spare
name_quick tw16241802466949684156 for plain? by spare
name_quick tw10308316962582663543 for plain? by spare
name_quick tw6019396324639902685 for plain? by spare
name_quick tw183835017167291270 for plain? by spare
name_quick tw6662432510661729299 for plain? by spare
name_quick tw5823794197072137003 for plain? by spare
name_quick tw15475462885187679331 for plain? by spare
name_quick tw9763268239775435451 for plain? by spare
name_quick tw7344376507651311505 for plain? by spare
name_quick tw18126140380344562322 for plain? by spare
name_quick tw13640514254501968386 for plain? by spare
name_quick tw13912434898499826684 for plain? by spare
name_quick tw9407582987413476825 for plain? by spare
name_quick tw12095823642532355627 for plain? by spare
name_quick tw6012508502120743258 for plain? by spare
name_quick tw13902233598862641821 for plain? by spare
name_quick tw1156252341971683116 for plain? by spare
name_quick tw10670733350059645105 for plain? by spare
name_quick tw5529568453561195837 for plain? by spare
name_quick tw13607416678640721797 for plain? by spare
name_quick tw3560238982266916124 for plain? by spare
name_quick tw15980859228951719591 for plain? by spare
name_quick tw10007627690174824804 for plain? by spare
name_quick tw6380047634161181297 for plain? by spare
name_quick tw15168306246750427876 for plain? by spare
name_quick tw1702518465993881591 for plain? by spare
name_quick tw9219426015542480343 for plain? by spare
name_quick tw3695515675974049574 for plain? by spare
name_quick tw17015423121036801654 for plain? by spare
name_quick tw1102190903223815498 for plain? by spare
name_quick tw14778209649434054790 for plain? by spare
name_quick tw1258299570235058372 for plain? by spare
name_quick tw4681523508651956083 for plain? by spare
name_quick tw8732485361984058174 for plain? by spare
name_quick tw11817470609975844035 for plain? by spare
name_quick tw383695940523520267 for plain? by spare
name_quick tw6214688769961185500 for plain? by spare
name_quick tw14168537005229113720 for plain? by spare
name_quick tw4775785305629353868 for plain? by spare
name_quick tw13160144027095335755 for plain? by spare
name_quick tw13721567128424951087 for plain? by spare
name_quick tw7198390536060210744 for plain? by spare
name_quick tw11108263761283441063 for plain? by spare
name_quick tw3362959441861295915 for plain? by spare
name_quick tw11013792430000457035 for plain? by spare
name_quick tw3636048126100218174 for plain? by spare
name_quick tw1869930749605803152 for plain? by spare
name_quick tw5923252988546675246 for plain? by spare
name_quick tw5976474108018559520 for plain? by spare
name_quick tw13141144453892091621 for plain? by spare
name_quick tw13317431791736044220 for plain? by spare
name_quick tw5758256569797452207 for plain? by spare
name_quick tw11328821685186248670 for plain? by spare
name_quick tw15323854079317868165 for plain? by spare
name_quick tw2627984346626558326 for plain? by spare
name_quick tw17517737089405305841 for plain? by spare
name_quick tw4613930686462287906 for plain? by spare
name_quick tw3327986453032591115 for plain? by spare
name_quick tw4933834842325187142 for plain? by spare
name_quick tw9787396351842916947 for plain? by spare
name_quick tw3953757239420563355 for plain? by spare
name_quick tw12540713548012372134 for plain? by spare
name_quick tw3577408171920636059 for plain? by spare
name_quick tw1258717718454355964 for plain? by spare
name_quick tw973662469405803806 for plain? by spare
name_quick tw7275051467321613617 for plain? by spare
name_quick tw1291980286583624508 for plain? by spare
name_quick tw7140130562030077042 for plain? by spare
name_quick tw8999186272805695465 for plain? by spare
name_quick tw5854881644878751223 for plain? by spare
name_quick tw16817318245366136608 for plain? by spare
name_quick tw6587116730350146372 for plain? by spare
name_quick tw932993149863042379 for plain? by spare
name_quick tw4797165386629745026 for plain? by spare
name_quick tw2948108419219029167 for plain? by spare
name_quick tw17280976486791472633 for plain? by spare
name_quick tw16873187988247708562 for plain? by spare
name_quick tw1544652992362985085 for plain? by spare
name_quick tw3766158894648301139 for plain? by spare
name_quick tw6909570525239066004 for plain? by spare
name_quick tw10833955939284561965 for plain? by spare
name_quick tw3355348695024010778 for plain? by spare
name_quick tw4527066259768149269 for plain? by spare
name_quick tw13580328829973926956 for plain? by spare
name_quick tw18410474027866654770 for plain? by spare
name_quick tw1204117194425446250 for plain? by spare
name_quick tw17975652961387846372 for plain? by spare
name_quick tw12022618010286034681 for plain? by spare
name_quick tw503676674663206642 for plain? by spare
name_quick tw5149714755402479525 for plain? by spare
name_quick tw6127375697748050860 for plain? by spare
name_quick tw12679591844961189642 for plain? by spare
name_quick tw18220123701641295943 for plain? by spare
name_quick tw17804436615005485693 for plain? by spare
name_quick tw15202239659555905331 for plain? by spare
name_quick tw2370425770031549630 for plain? by spare
name_quick tw11853533878840232495 for plain? by spare
name_quick tw9300948228871686676 for plain? by spare
name_quick tw682011567655089306 for plain? by spare
name_quick tw16349804527192203551 for plain? by spare
name_quick tw15806122291839087668 for plain? by spare
name_quick tw15079194523842364033 for plain? by spare
name_quick tw8430678208038309684 for plain? by spare
name_quick tw6144853644547557980 for plain? by spare
name_quick tw10758392820592806131 for plain? by spare
name_quick tw1631149150583789468 for plain? by spare
name_quick tw1267870562809915468 for plain? by spare
name_quick tw16413963553889246368 for plain? by spare
name_quick tw6123655918767846522 for plain? by spare
name_quick tw11891824955294080559 for plain? by spare
name_quick tw151948405760981731 for plain? by spare
name_quick tw2905824091091238844 for plain? by spare
name_quick tw14386061602966655976 for plain? by spare
name_quick tw7035115661146626270 for plain? by spare
name_quick tw8459811325457737761 for plain? by spare
name_quick tw4434333111790514575 for plain? by spare
name_quick tw5732905514179830355 for plain? by spare
name_quick tw7573151900890175926 for plain? by spare
name_quick tw8224813933742928703 for plain? by spare
name_quick tw3504847659760329788 for plain? by spare
name_quick tw8649964590619651473 for plain? by spare
name_quick tw8172093975534723114 for plain? by spare
name_quick tw15278061642289888581 for plain? by spare
name_quick tw14126943448341045398 for plain? by spare
name_quick tw17730448691065144110 for plain? by spare
name_quick tw282004115355043989 for plain? by spare
name_quick tw16548257151911338427 for plain? by spare
name_quick tw2422670821966735624 for plain? by spare
name_quick tw9285146279643344392 for plain? by spare
name_quick tw11519604305632133818 for plain? by spare
name_quick tw8579058602437062094 for plain? by spare
name_quick tw10379131730601215995 for plain? by spare
name_quick tw4407734736301137906 for plain? by spare
name_quick tw13642483538084851733 for plain? by spare
name_quick tw17552769576498331613 for plain? by spare
name_quick tw15919542637913265678 for plain? by spare
name_quick tw5952267759425050802 for plain? by spare
name_quick tw1055568401681811165 for plain? by spare
name_quick tw16264917585968594740 for plain? by spare
name_quick tw17352973434858128600 for plain? by spare
name_quick tw5189142188285759775 for plain? by spare
name_quick tw18345786424863182364 for plain? by spare
name_quick tw1615719349143574890 for plain? by spare
name_quick tw7269565832213808900 for plain? by spare
name_quick tw16752143609539240740 for plain? by spare
name_quick tw16339471991904476338 for plain? by spare
name_quick tw2660918139993853925 for plain? by spare
name_quick tw12488000419048109807 for plain? by spare
name_quick tw1574873078441994576 for plain? by spare
name_quick tw14326252917377295143 for plain? by spare
name_quick tw8047484207015712433 for plain? by spare
name_quick tw912392155897948271 for plain? by spare
name_quick tw16593013826814733010 for plain? by spare
name_quick tw16869277618539721502 for plain? by spare
name_quick tw7496433998918960881 for plain? by spare
name_quick tw17475289236778735526 for plain? by spare
name_quick tw17325535178939296128 for plain? by spare
name_quick tw2447775223705975068 for plain? by spare
name_quick tw2951486255847992690 for plain? by spare
name_quick tw4552823106982906706 for plain? by spare
name_quick tw13809362725867891129 for plain? by spare
name_quick tw5032809538720368765 for plain? by spare
name_quick tw17988542015724977305 for plain? by spare
name_quick tw1139862187096482527 for plain? by spare
name_quick tw6654550962395885724 for plain? by spare
name_quick tw17888162413812561239 for plain? by spare
name_quick tw16644606511662114574 for plain? by spare
name_quick tw4011157648589011858 for plain? by spare
name_quick tw3972328310683599613 for plain? by spare
name_quick tw13759679279233594173 for plain? by spare
name_quick tw13215998728584607739 for plain? by spare
name_quick tw313226197891681235 for plain? by spare
name_quick tw11796506867022685745 for plain? by spare
name_quick tw6967401301877209104 for plain? by spare
name_quick tw8376441433122354887 for plain? by spare
name_quick tw7987952416473584550 for plain? by spare
name_quick tw3292988265063385152 for plain? by spare
name_quick tw4558998842232669794 for plain? by spare
name_quick tw505943868828395459 for plain? by spare
name_quick tw757081541053455785 for plain? by spare
name_quick tw8385612375773290118 for plain? by spare
name_quick tw5882768191206486792 for plain? by spare
name_quick tw11707371222683016368 for plain? by spare
name_quick tw11964429278604863157 for plain? by spare
name_quick tw9501820088010722379 for plain? by spare
name_quick tw12233582284571471492 for plain? by spare
name_quick tw2315820567201803617 for plain? by spare
name_quick tw950723637873067451 for plain? by spare
name_quick tw15423634916342008072 for plain? by spare
name_quick tw10042830170769951172 for plain? by spare
name_quick tw11495947367809530248 for plain? by spare
name_quick tw14097648870716263351 for plain? by spare
name_quick tw13725850141900786883 for plain? by spare
name_quick tw17913803186225011329 for plain? by spare
name_quick tw13981391230805400906 for plain? by spare
name_quick tw12371321757623732685 for plain? by spare
name_quick tw12177649209318274912 for plain? by spare
name_quick tw15808557625122938864 for plain? by spare
name_quick tw6891000109920058784 for plain? by spare
name_quick tw15376083050721069600 for plain? by spare
name_quick tw8753696776887207221 for plain? by spare
name_quick tw11445135464325071761 for plain? by spare
name_quick tw5135500740108067664 for plain? by spare
name_quick tw10885399304501877467 for plain? by spare
name_quick tw9594665118957945026 for plain? by spare
name_quick tw8253183596043897158 for plain? by spare
name_quick tw8860024209350480642 for plain? by spare
name_quick tw2478078296215019888 for plain? by spare
name_quick tw13505292571300825877 for plain? by spare
name_quick tw16916688483869632129 for plain? by spare
name_quick tw14223099787259518943 for plain? by spare
name_quick tw9396933662098498411 for plain? by spare
name_quick tw16180582048198870337 for plain? by spare
name_quick tw535072334866317008 for plain? by spare
name_quick tw14766643958189025262 for plain? by spare
name_quick tw5853609219237828028 for plain? by spare
name_quick tw14909702598903578594 for plain? by spare
name_quick tw10030586065758793078 for plain? by spare
name_quick tw12973657651903071711 for plain? by spare
name_quick tw2611137233208623240 for plain? by spare
name_quick tw13903129631018457399 for plain? by spare
name_quick tw8595292554425487202 for plain? by spare
name_quick tw11729385059970357855 for plain? by spare
name_quick tw12450158673883907302 for plain? by spare
name_quick tw12114495157272644582 for plain? by spare
name_quick tw17863021456227041891 for plain? by spare
name_quick tw11566699232636054958 for plain? by spare
name_quick tw8119918657739134586 for plain? by spare
name_quick tw13678640442995254988 for plain? by spare
name_quick tw17846936440860909165 for plain? by spare
name_quick tw7276740287692124622 for plain? by spare
name_quick tw7365555872484859036 for plain? by spare
name_quick tw7323676302269181137 for plain? by spare
name_quick tw1503297043503765363 for plain? by spare
name_quick tw11994158751524154303 for plain? by spare
name_quick tw16176465441171805009 for plain? by spare
name_quick tw1393629259489396696 for plain? by spare
name_quick tw14043711374191979534 for plain? by spare
name_quick tw11310463157757771331 for plain? by spare
name_quick tw17057272898397164401 for plain? by spare
name_quick tw6817277305950994716 for plain? by spare
name_quick tw10317580896714288900 for plain? by spare
name_quick tw15450981722951097364 for plain? by spare
name_quick tw7892128664451923741 for plain? by spare
name_quick tw13776390136698705113 for plain? by spare
name_quick tw6519424955469430661 for plain? by spare
name_quick tw10010936943081839664 for plain? by spare
name_quick tw18056578402003937789 for plain? by spare
name_quick tw14971970265804392439 for plain? by spare
name_quick tw1333364371103165705 for plain? by spare
name_quick tw12224578244612797663 for plain? by spare
name_quick tw18211773271919218964 for plain? by spare
name_quick tw18340240734955500558 for plain? by spare
name_quick tw13016732220969518872 for plain? by spare
name_quick tw16414604833108395602 for plain? by spare
name_quick tw12268644228514654432 for plain? by spare
name_quick tw1370275717833778536 for plain? by spare
name_quick tw5152784196030571298 for plain? by spare
name_quick tw17554001833073541016 for plain? by spare
name_quick tw14896874001708588922 for plain? by spare
name_quick tw9676229304581654039 for plain? by spare
name_quick tw17954471519018878134 for plain? by spare
name_quick tw9151444980202551346 for plain? by spare
name_quick tw2193789692954389824 for plain? by spare
name_quick tw3424931102881643321 for plain? by spare
name_quick tw9979284746773624096 for plain? by spare
name_quick tw721709456127091705 for plain? by spare
name_quick tw878741703135273975 for plain? by spare
name_quick tw12734952128020822468 for plain? by spare
name_quick tw17026713947507217902 for plain? by spare
name_quick tw12945968074294007009 for plain? by spare
name_quick tw17730428716208468724 for plain? by spare
name_quick tw1377046205977697930 for plain? by spare
name_quick tw9951705424602377420 for plain? by spare
name_quick tw17000458434675057986 for plain? by spare
name_quick tw7650934615059315214 for plain? by spare
name_quick tw6448080314894763839 for plain? by spare
name_quick tw7392212959928792091 for plain? by spare
name_quick tw2922074901204462755 for plain? by spare
name_quick tw1041845030581493396 for plain? by spare
name_quick tw1414301608579184545 for plain? by spare
name_quick tw9467589175468403638 for plain? by spare
name_quick tw16350708796919097252 for plain? by spare
name_quick tw7840439059173320295 for plain? by spare
name_quick tw17899373020297197333 for plain? by spare
name_quick tw8693227569615203950 for plain? by spare
name_quick tw8703263022893421829 for plain? by spare
name_quick tw10015664371746657536 for plain? by spare
name_quick tw12821735335276811757 for plain? by spare
name_quick tw12647630874787467225 for plain? by spare
name_quick tw17139780236743587250 for plain? by spare
name_quick tw4658958612460137192 for plain? by spare
name_quick tw10819683100428557426 for plain? by spare
name_quick tw15560853006256673968 for plain? by spare
name_quick tw2283851925072248500 for plain? by spare
name_quick tw8727135674562949291 for plain? by spare
name_quick tw12635297910168745909 for plain? by spare
name_quick tw8610040677353227653 for plain? by spare
name_quick tw13559156169165276386 for plain? by spare
name_quick tw11277716924127702174 for plain? by spare
name_quick tw1085346719588807367 for plain? by spare
name_quick tw17532440430192770315 for plain? by spare
name_quick tw5268983451555188008 for plain? by spare
name_quick tw8206430501311747189 for plain? by spare
name_quick tw6090905460779295987 for plain? by spare
name_quick tw9862997608875712007 for plain? by spare
name_quick tw9948023125614773506 for plain? by spare
name_quick tw6722154040420286063 for plain? by spare
name_quick tw325292655437039998 for plain? by spare
name_quick tw6929956602132211858 for plain? by spare
name_quick tw17497748084772794779 for plain? by spare
name_quick tw15480198773659482676 for plain? by spare
name_quick tw5068434257544371817 for plain? by spare
name_quick tw17018628822417861297 for plain? by spare
name_quick tw900395245841561262 for plain? by spare
name_quick tw16942504070071679284 for plain? by spare
name_quick tw5721027456603625697 for plain? by spare
name_quick tw17279654841073493023 for plain? by spare
name_quick tw15112985482279097393 for plain? by spare
name_quick tw13335737130258781183 for plain? by spare
name_quick tw13254397897704925713 for plain? by spare
name_quick tw7232422423428716515 for plain? by spare
name_quick tw1829445100760108279 for plain? by spare
name_quick tw17954736447514056666 for plain? by spare
name_quick tw4904739604578439355 for plain? by spare
name_quick tw13951257522405164796 for plain? by spare
name_quick tw15542691292777871779 for plain? by spare
name_quick tw17071476683966804577 for plain? by spare
name_quick tw16018607276475445134 for plain? by spare
name_quick tw13900631225919944168 for plain? by spare
name_quick tw14553827428707814869 for plain? by spare
name_quick tw10424941004445345732 for plain? by spare
name_quick tw8708707556590381134 for plain? by spare
name_quick tw2718901123391026995 for plain? by spare
name_quick tw11825729669827539873 for plain? by spare
name_quick tw8540232549379673566 for plain? by spare
name_quick tw10028428298569065181 for plain? by spare
name_quick tw13833065179229638619 for plain? by spare
name_quick tw219737044198020058 for plain? by spare
name_quick tw17853915177807527196 for plain? by spare
name_quick tw389472881494512206 for plain? by spare
name_quick tw10190238754879171395 for plain? by spare
name_quick tw15560500314895047343 for plain? by spare
name_quick tw8802822988693486460 for plain? by spare
name_quick tw4936483359421988267 for plain? by spare
name_quick tw18163462532019968843 for plain? by spare
name_quick tw9736788993784561348 for plain? by spare
name_quick tw2902314222560053993 for plain? by spare
name_quick tw16417370028952169744 for plain? by spare
name_quick tw16865151637890581275 for plain? by spare
name_quick tw9674257727999782656 for plain? by spare
name_quick tw7405434945208526273 for plain? by spare
name_quick tw6291368078380397288 for plain? by spare
name_quick tw9376109419431680627 for plain? by spare
name_quick tw5720267713326709755 for plain? by spare
name_quick tw14285029430470858289 for plain? by spare
name_quick tw5862295025349918931 for plain? by spare
name_quick tw14973007898608030118 for plain? by spare
name_quick tw9537544019596298400 for plain? by spare
name_quick tw43969757491396457 for plain? by spare
name_quick tw17344680358763864322 for plain? by spare
name_quick tw14214133299417103183 for plain? by spare
name_quick tw16942194440817826258 for plain? by spare
name_quick tw17943406268862710625 for plain? by spare
name_quick tw2011108890870493169 for plain? by spare
name_quick tw3315324234476444515 for plain? by spare
name_quick tw18273839248471157720 for plain? by spare
name_quick tw16328912562034613984 for plain? by spare
name_quick tw13241461904039861399 for plain? by spare
name_quick tw9082586571710850966 for plain? by spare
name_quick tw1536587703002861866 for plain? by spare
name_quick tw4800724452203346748 for plain? by spare
name_quick tw7585139358526817783 for plain? by spare
name_quick tw15468230090516036684 for plain? by spare
name_quick tw11740888236361828772 for plain? by spare
name_quick tw8656719876789144132 for plain? by spare
name_quick tw12989987162080215863 for plain? by spare
name_quick tw4109823476700235019 for plain? by spare
name_quick tw4405960384096086239 for plain? by spare
name_quick tw3427515755752030745 for plain? by spare
name_quick tw8946543629884556368 for plain? by spare
name_quick tw2569364866550412066 for plain? by spare
name_quick tw7081425507203772304 for plain? by spare
name_quick tw14934708107589980039 for plain? by spare
name_quick tw14874922208557711187 for plain? by spare
name_quick tw4636218855388986860 for plain? by spare
name_quick tw10045867985992453528 for plain? by spare
name_quick tw10181792811725400092 for plain? by spare
name_quick tw2968979199505139716 for plain? by spare
name_quick tw6789855027759293466 for plain? by spare
name_quick tw6624491594363574236 for plain? by spare
name_quick tw17101871299007795629 for plain? by spare
name_quick tw6952355047532471503 for plain? by spare
name_quick tw12182807814244774211 for plain? by spare
name_quick tw16127339712140622707 for plain? by spare
name_quick tw4966893808263662355 for plain? by spare
name_quick tw16966814322356759819 for plain? by spare
name_quick tw196644378293983589 for plain? by spare
name_quick tw14186486079044719983 for plain? by spare
name_quick tw15902184279288820625 for plain? by spare
name_quick tw14323765505736481980 for plain? by spare
name_quick tw1184552218554016812 for plain? by spare
name_quick tw5310036984924271277 for plain? by spare
name_quick tw6993175162768986339 for plain? by spare
name_quick tw16180483070735683940 for plain? by spare
name_quick tw11682084944484805031 for plain? by spare
name_quick tw15823609455315575823 for plain? by spare
name_quick tw9626621113073979434 for plain? by spare
name_quick tw1092655722715705105 for plain? by spare
name_quick tw6426273055680023932 for plain? by spare
name_quick tw14420389602138693270 for plain? by spare
name_quick tw15766043655864335149 for plain? by spare
name_quick tw18101931140130867144 for plain? by spare
name_quick tw12945451867199242903 for plain? by spare
name_quick tw18163708392712065173 for plain? by spare
name_quick tw951843321253372498 for plain? by spare
name_quick tw16874561944515371726 for plain? by spare
name_quick tw764782834095389478 for plain? by spare
name_quick tw9577309144901391297 for plain? by spare
name_quick tw3820604794100220378 for plain? by spare
name_quick tw1355338860687761863 for plain? by spare
name_quick tw724751600484774222 for plain? by spare
name_quick tw16979880578912567463 for plain? by spare
name_quick tw13236226663087606529 for plain? by spare
name_quick tw9265879793445154701 for plain? by spare
name_quick tw1107438419126420414 for plain? by spare
name_quick tw392140993173905013 for plain? by spare
name_quick tw14333388528381170442 for plain? by spare
name_quick tw7286323032743288035 for plain? by spare
name_quick tw12813236842856870187 for plain? by spare
name_quick tw15195428891847259777 for plain? by spare
name_quick tw8488268690174267210 for plain? by spare
name_quick tw10948738476641704880 for plain? by spare
name_quick tw4879560196417449868 for plain? by spare
name_quick tw2378363196638174374 for plain? by spare
name_quick tw18416463498863911781 for plain? by spare
name_quick tw17183712847048597117 for plain? by spare
name_quick tw11892598404827812706 for plain? by spare
name_quick tw9787463984185863102 for plain? by spare
name_quick tw8537084889766193716 for plain? by spare
name_quick tw8686407601681055034 for plain? by spare
name_quick tw18260038339965228139 for plain? by spare
name_quick tw16292439048969090190 for plain? by spare
name_quick tw4071324889030633612 for plain? by spare
name_quick tw3865406201487662470 for plain? by spare
name_quick tw4549333791460862111 for plain? by spare
name_quick tw608726401823008365 for plain? by spare
name_quick tw12726346659333912481 for plain? by spare
name_quick tw3131671291697673992 for plain? by spare
name_quick tw12832477231654346042 for plain? by spare
name_quick tw9759809726879904816 for plain? by spare
name_quick tw6148621092414575339 for plain? by spare
name_quick tw5450187663091677483 for plain? by spare
name_quick tw2958062672499776758 for plain? by spare
name_quick tw1419416864934026935 for plain? by spare
name_quick tw16374537267813192141 for plain? by spare
name_quick tw11588390666370768167 for plain? by spare
name_quick tw5770868932273138760 for plain? by spare
name_quick tw13251646731365433171 for plain? by spare
name_quick tw13002492023102617099 for plain? by spare
name_quick tw1763209079605825380 for plain? by spare
name_quick tw7082770336023389322 for plain? by spare
name_quick tw14108194823987119177 for plain? by spare
name_quick tw3386650904741475044 for plain? by spare
name_quick tw2664551874359636763 for plain? by spare
name_quick tw7469732015759309437 for plain? by spare
name_quick tw725871291056497461 for plain? by spare
name_quick tw3282434896037501709 for plain? by spare
name_quick tw8032284361305108907 for plain? by spare
name_quick tw10996506086634736982 for plain? by spare
name_quick tw11036193050239951465 for plain? by spare
name_quick tw6179359751918216688 for plain? by spare
name_quick tw6059929106960060952 for plain? by spare
name_quick tw10487160056961263569 for plain? by spare
name_quick tw5396446701170858492 for plain? by spare
name_quick tw17765544955259793912 for plain? by spare
name_quick tw11957962974430299695 for plain? by spare
name_quick tw16326889199254633757 for plain? by spare
name_quick tw15034313371233782410 for plain? by spare
name_quick tw3152983702415266003 for plain? by spare
name_quick tw14073706353221006472 for plain? by spare
name_quick tw12660628722211587041 for plain? by spare
name_quick tw3436264866546951355 for plain? by spare
name_quick tw12329403913580668285 for plain? by spare
name_quick tw10942035263794033107 for plain? by spare
name_quick tw9673203406766833760 for plain? by spare
name_quick tw10887116778572429059 for plain? by spare
name_quick tw12237943961548833269 for plain? by spare
name_quick tw11707433790658880453 for plain? by spare
name_quick tw16296994325663420285 for plain? by spare
name_quick tw15663404670287596823 for plain? by spare
name_quick tw8603108125212654177 for plain? by spare
name_quick tw17164873540382356111 for plain? by spare
name_quick tw6363645014702824404 for plain? by spare
name_quick tw17520869792638436183 for plain? by spare
name_quick tw4319705520415482375 for plain? by spare
name_quick tw3142773779024712118 for plain? by spare
name_quick tw16366562015402752707 for plain? by spare
name_quick tw618205885557783147 for plain? by spare
name_quick tw14224011070414065920 for plain? by spare
name_quick tw6213141578215901147 for plain? by spare
name_quick tw5701610774189311196 for plain? by spare
name_quick tw7581816359482902497 for plain? by spare
name_quick tw11317593695737139937 for plain? by spare
name_quick tw14311459727803291754 for plain? by spare
name_quick tw17774800907425398282 for plain? by spare
name_quick tw667198328695590252 for plain? by spare
name_quick tw7094674258960923220 for plain? by spare
name_quick tw11939915149646268982 for plain? by spare
name_quick tw8642067239939848140 for plain? by spare
name_quick tw17993156020533580102 for plain? by spare
name_quick tw11543547407058413889 for plain? by spare
name_quick tw5518745428033880147 for plain? by spare
name_quick tw7745614565497352828 for plain? by spare
name_quick tw17537794083376710389 for plain? by spare
name_quick tw3698559305507148144 for plain? by spare
name_quick tw8881496252177385917 for plain? by spare
name_quick tw16189536214700107852 for plain? by spare
name_quick tw10057510723706494237 for plain? by spare
name_quick tw13789449189825218787 for plain? by spare
name_quick tw11863081143760314161 for plain? by spare
name_quick tw136631920214876835 for plain? by spare
name_quick tw470574548607681690 for plain? by spare
name_quick tw18123110421147349612 for plain? by spare
name_quick tw15041003319150489328 for plain? by spare
name_quick tw8424611434330503625 for plain? by spare
name_quick tw4299136966843209011 for plain? by spare
name_quick tw11838138170533393997 for plain? by spare
name_quick tw16643379632663270332 for plain? by spare
name_quick tw17503288770812694035 for plain? by spare
name_quick tw4980102563643897964 for plain? by spare
name_quick tw5697894365363955025 for plain? by spare
name_quick tw716658179208862652 for plain? by spare
name_quick tw18350638575300117064 for plain? by spare
name_quick tw16432479971616331241 for plain? by spare
name_quick tw15207642765257501584 for plain? by spare
name_quick tw13581749221687468397 for plain? by spare
name_quick tw4224760802259116069 for plain? by spare
name_quick tw11788150170368784547 for plain? by spare
name_quick tw17000155066101142889 for plain? by spare
name_quick tw6589095468515690095 for plain? by spare
name_quick tw17828083071136270317 for plain? by spare
name_quick tw6711915476519705758 for plain? by spare
name_quick tw14884601019740666482 for plain? by spare
name_quick tw2354101950205528012 for plain? by spare
name_quick tw10227693086864044499 for plain? by spare
name_quick tw11270796479367742343 for plain? by spare
name_quick tw4075660801711882420 for plain? by spare
name_quick tw1886563365779066154 for plain? by spare
name_quick tw16439824349840649037 for plain? by spare
name_quick tw6245536207120538393 for plain? by spare
name_quick tw7229665172594901996 for plain? by spare
name_quick tw3470799630455053000 for plain? by spare
name_quick tw7788680626742099145 for plain? by spare
name_quick tw2504098582860672743 for plain? by spare
name_quick tw5200128776193632040 for plain? by spare
name_quick tw9564595351457756722 for plain? by spare
name_quick tw6434138532213402376 for plain? by spare
name_quick tw6380782515089751550 for plain? by spare
name_quick tw7098571738820278039 for plain? by spare
name_quick tw4575980220486274672 for plain? by spare
name_quick tw16531745337717519161 for plain? by spare
name_quick tw2719445374943340272 for plain? by spare
name_quick tw3880421473898291048 for plain? by spare
name_quick tw17024950926791866790 for plain? by spare
name_quick tw2670528217467546775 for plain? by spare
name_quick tw17100903815162463580 for plain? by spare
name_quick tw11767421526060770920 for plain? by spare
name_quick tw7802139600951554647 for plain? by spare
name_quick tw17532718790514356516 for plain? by spare
name_quick tw9529234661008812162 for plain? by spare
name_quick tw14837249469386935497 for plain? by spare
name_quick tw460243522976405022 for plain? by spare
name_quick tw6834602518627153040 for plain? by spare
name_quick tw14305139224198610471 for plain? by spare
name_quick tw10508251915553800215 for plain? by spare
name_quick tw8987815912523675519 for plain? by spare
name_quick tw4090926877573551719 for plain? by spare
name_quick tw12659028871203227004 for plain? by spare
name_quick tw17341736924252097559 for plain? by spare
name_quick tw15742981410569661332 for plain? by spare
name_quick tw563124612126607214 for plain? by spare
name_quick tw14530364306720264245 for plain? by spare
name_quick tw14834023430324568649 for plain? by spare
name_quick tw9413167413068371254 for plain? by spare
name_quick tw9800571698397750058 for plain? by spare
name_quick tw6714822604882049554 for plain? by spare
name_quick tw10138199336372458610 for plain? by spare
name_quick tw9206804518496725263 for plain? by spare
name_quick tw9908251947323293946 for plain? by spare
end
open_top hd for PySem.Challenge.rw_np0089_01
end Mine
namespace Mine.Internal
def auN (k : Lean.Name) (l : Array Lean.Syntax) : Lean.Syntax := .node .none k l
def auA (s : _root_.String) : Lean.Syntax := .atom .none s
def auI (s : _root_.String) (n : Lean.Name) : Lean.Syntax := .ident .none s.toRawSubstring n []
def auT (l : Array Lean.Syntax) : Lean.Syntax := auN `Lean.Parser.Tactic.tacticSeq #[auN `Lean.Parser.Tactic.tacticSeq1Indented #[auN `null l]]
def auR0 : Lean.Syntax := auN `Lean.Parser.Tactic.tacticRfl #[auA "rfl"]
def auL0 : Lean.Syntax := auN `Lean.Parser.Tactic.exact #[auA "exact", auN `Lean.Parser.Term.app #[auI "Nat.le_of_ble_eq_true" `Nat.le_of_ble_eq_true, auN `null #[auI "rfl" `rfl]]]
def auH : Lean.Syntax := auN `Lean.Parser.Term.hole #[auA "_"]
def auR : Lean.Syntax := auT #[auR0]
def auL : Lean.Syntax := auT #[auL0]
def auK : Lean.Syntax := auT #[auN `PySem.W.tacticK_dflt_ #[auA "k_dflt", auR0]]
def auD : Lean.Syntax := auT #[auN `PySem.W.tacticK_dflt_ #[auA "k_dflt", auL0]]
def auC : Lean.Syntax := auT #[auN `Lean.Parser.Tactic.decide #[auA "decide", auN `Lean.Parser.Tactic.optConfig #[auN `null #[]]]]
def auJ : Lean.Syntax := auT #[auN `Lean.Parser.Tactic.intro #[auA "intro", auN `null #[auH]], auA ";", auR0]
def auP : Lean.Syntax := auT #[auN `tacticPasses_own #[auA "passes_own"]]
def auE : Lean.Syntax := auT #[auN `Lean.Parser.Tactic.exact #[auA "exact", auN `Lean.Parser.Term.anonymousCtor #[auA "⟨", auN `null #[auH, auA ",", auI "rfl" `rfl], auA "⟩"]]]
end Mine.Internal
namespace Mine.Internal

structure Std (w : World) (h : Heap) : Prop where
  X : (Mine.hd.heap_39 w.params).In h
  T : ∃ p loose mean mg mb, Top p loose mean mg mb h
theorem Std.keeps {w : World} {h h' : Heap} (S : Std w h) (k : h.StaysIn h') : Std w h' :=
  ⟨S.X.keeps k, let ⟨p, l, me, mg, mb, T⟩ := S.T; ⟨p, l, me, mg, mb, T.keeps k⟩⟩

abbrev At (n : Nat) : Around := { handled := none, depth := n, frames := none, guards := none, units := 8 * n }
theorem lift {α : Type} {M : Model} {A : Around} {t : Sem α} {Q : α → Shared → Prop} {E : Value → Shared → Prop} {s : Shared} {n : Nat} (hh : A.handled = none) (hd : A.depth ≤ n) (hu : A.units ≤ 8 * n)
    (h : wpAny M (At n) t Q E s) : wpAny M A t Q E s := fun Γ p hΓ =>
  h Γ p ⟨by rw [hΓ.1, hh], Nat.le_trans hΓ.2.1 hd, fun _ q => (nomatch q), fun _ q => (nomatch q), Nat.le_trans hΓ.2.2.2.2 hu⟩

def Calls (w : World) (n : Nat) (f : Value) (args : List Value) (h : Heap) (P : Value → Heap → Prop) : Prop :=
  ∀ (A : Around) (s : Shared) (Q E : Value → Shared → Prop), A.handled = none → A.depth ≤ n → A.units ≤ 8 * n → s.heap = h →
    (∀ v h' tk', h.StaysIn h' → P v h' → Q v { s with heap := h', toks := tk' }) → wpAny (model Challenge.rw_np0089_01.row.prog w) A (call f args) Q E s

theorem Calls.use {w : World} {n : Nat} {f : Value} {args : List Value} {P : Value → Heap → Prop} {A : Around} {s : Shared} {Q E : Value → Shared → Prop} {g : Heap} {L : Addr} {m : Str → Option Value} {news : List (Addr × Obj)}
    (C : Calls w n f args s.heap P) (F : Fr g L s.heap m) (N : News g L s.heap news)
    (k : ∀ v h' tk', P v h' → Fr g L h' m → News g L h' news → Q v { s with heap := h', toks := tk' })
    (hh : autoParam (A.handled = none) auR) (hd : autoParam (A.depth ≤ n) auL) (hu : autoParam (A.units ≤ 8 * n) auL) :
    wpAny (model Challenge.rw_np0089_01.row.prog w) A (call f args) Q E s :=
  C A s Q E hh hd hu rfl fun v h' tk' st p => k v h' tk' p (F.keeps st) (N.grown st)

def Ret (h : Heap) (P : Value → Heap → Prop) (s : Shared) (v : Value) (s' : Shared) : Prop :=
  ∃ h' tk', s' = { s with heap := h', toks := tk' } ∧ h.StaysIn h' ∧ P v h'
theorem Ret.intro {h h' : Heap} {P : Value → Heap → Prop} {s : Shared} {v : Value} {tk' : Nat} {L : Addr} {m : Str → Option Value} (F : Fr h L h' m) (p : P v h') : Ret h P s v { s with heap := h', toks := tk' } :=
  ⟨h', tk', rfl, F.keep, p⟩
def flv (f : Flow) : Value := match f with | .ret v => v | _ => .none

theorem Calls.fn {w : World} {n : Nat} {f : Addr} {args : List Value} {h : Heap} {P : Value → Heap → Prop}
    {name qual : Str} {params : Arguments} {body : List Stmt} {scope : Scope} {dV kV doc pm cdv ct oc : Value} {an od : Option Addr} {osl : Array (Option Value)} {binds : List (Str × Value)}
    (S : Std w h) (ho : (Mine.hd.heap_39 w.params).lookup f = some ⟨oc, od, .func (fnOf name qual params body scope dV kV doc pm an cdv ct), osl⟩)
    (hcd : codeIn (Mine.hd.heap_39 w.params) cdv qual = true) (hroom : n < recursionLimit)
    (hbind : ∀ s, BindsTo s (fnOf name qual params body scope dV kV doc pm an cdv ct) ⟨args, []⟩ binds) (hloc : ∀ y ∈ binds, scope.names.lookup y.1 = some .local)
    (hb : ∀ (L' : Addr) (h₁ : Heap) (s : Shared) (tk : Nat), Fr h L' h₁ (fun y => binds.reverse.lookup y) → News h L' h₁ [] →
      wpAny (model Challenge.rw_np0089_01.row.prog w) ((At n).deeper (envOf qual scope L' f cdv)) (execs body (envOf qual scope L' f cdv))
        (fun fl s' => Ret h P s (flv fl) s') (fun _ _ => False) { s with heap := h₁, toks := tk })
    (hco : scope.isCoroutine = false) (hgen : scope.isGenerator = false) (hk : scope.kind = .function)
    (hcell : ∀ x ∈ scope.names, x.2 ≠ .cell) : Calls w n (.ref f) args h P := by
  intro A s Q E hh hd hu hs k
  subst hs
  refine lift hh hd hu (wpAny_call ?_)
  obtain ⟨X, p, l, me, mg, mb, T⟩ := S
  refine codeAny_call_def (fd := fnOf name qual params body scope dV kV doc pm an cdv ct) (body := body) (binds := binds) hroom (X _ _ ho) rfl T.nolimit (codeRec_of X hcd) rfl (hbind s) hcell hloc (fun h₁ hns hk₁ => ?_) hco hgen hk
  refine wpAny_mono (hb s.heap.objs.size h₁ s _ ⟨hns, hk₁, Nat.le_refl _⟩ (fun _ h => nomatch h)) (fun fl s' r => ?_) fun _ _ x => x.elim
  obtain ⟨h', tk', rfl, st, p⟩ := r
  exact k _ _ _ st p

inductive NumAt (h : Heap) : Value → Int → Prop where
  | int (n : Int) (t : Tok) : NumAt h (.int n t) n
  | mark {a d : Addr} {n : Int} {t : Tok} {es : List DictEntry} {k : Nat} {b : Addr} :
      h.get? a = some ⟨.ref 155, some d, .plain, #[]⟩ → h.get? d = some (dictOf es k) →
      getL (Str.ofString "buffer") es = some (some (.ref b)) → getL (Str.ofString "position") es = some (some (.int n t)) → NumAt h (.ref a) n
theorem NumAt.keeps {h h' : Heap} {v : Value} {n : Int} (x : NumAt h v n) (k : h.StaysIn h') : NumAt h' v n := by
  cases x with
  | int n t => exact .int n t
  | mark h1 h2 h3 h4 => exact .mark (k _ _ h1) (k _ _ h2) h3 h4

end Mine.Internal
namespace Mine.Internal
def kN (M : Model) (A : Around) (E : Value → Shared → Prop) (env : Env) (rest : List Stmt) (Q : Flow → Shared → Prop) (f : Flow) (s : Shared) : Prop := match f with
  | .next => wpAny M A (execs rest env) Q E s
  | f => Q f s
def kIf (M : Model) (A : Around) (E : Value → Shared → Prop) (env : Env) (a b : List Stmt) (Q : Flow → Shared → Prop) (c : Bool) (s : Shared) : Prop := if c = true then wpAny M A (execs a env) Q E s else wpAny M A (execs b env) Q E s
def kIe (M : Model) (A : Around) (E : Value → Shared → Prop) (env : Env) (a b : PySem.Expr) (Q : Value → Shared → Prop) (c : Bool) (s : Shared) : Prop := if c = true then wpAny M A (eval a env) Q E s else wpAny M A (eval b env) Q E s
def kRt (Q : Flow → Shared → Prop) (v : Value) (s : Shared) : Prop := Q (.ret v) s
def kX {α : Type} (Q : Flow → Shared → Prop) (_ : α) (s : Shared) : Prop := Q .next s
def kSt (M : Model) (A : Around) (E : Value → Shared → Prop) (env : Env) (x : Str) (Q : Flow → Shared → Prop) (v : Value) (s : Shared) : Prop := wpAny M A (storeName env x v) (kX Q) E s
def kTr (M : Model) (A : Around) (E : Value → Shared → Prop) (Q : Bool → Shared → Prop) (v : Value) (s : Shared) : Prop := wpAny M A (truthy v) Q E s
def kOp2 (M : Model) (A : Around) (E : Value → Shared → Prop) (f : Value → Value → Sem Value) (a : Value) (Q : Value → Shared → Prop) (b : Value) (s : Shared) : Prop := wpAny M A (f a b) Q E s
def kOp1 (M : Model) (A : Around) (E : Value → Shared → Prop) (env : Env) (f : Value → Value → Sem Value) (r : PySem.Expr) (Q : Value → Shared → Prop) (a : Value) (s : Shared) : Prop := wpAny M A (eval r env) (kOp2 M A E f a Q) E s
def kCw (M : Model) (A : Around) (E : Value → Shared → Prop) (env : Env) (args : List PySem.Expr) (pos : Pos) (Q : Value → Shared → Prop) (f : Value) (s : Shared) : Prop := wpAny M A (callWith pos f [] (backTo pos (starEach args env)) []) Q E s
def kCk (M : Model) (A : Around) (E : Value → Shared → Prop) (K : Frag) (f : Value) (Q : Value → Shared → Prop) (vs : List Value) (s : Shared) : Prop := K.In s.heap ∧ wpAny M A (call f ([] ++ vs)) Q E s
def kCb (M : Model) (A : Around) (E : Value → Shared → Prop) (f : Value) (Q : Value → Shared → Prop) (vs : List Value) (s : Shared) : Prop := wpAny M A (call f vs) Q E s
def kAc (v : Value) (Q : List Value → Shared → Prop) (vs : List Value) (s : Shared) : Prop := Q (v :: vs) s
def kAr (M : Model) (A : Around) (E : Value → Shared → Prop) (env : Env) (rest : List PySem.Expr) (pos : Pos) (Q : List Value → Shared → Prop) (v : Value) (s : Shared) : Prop := wpAny M A (spliced (backTo pos (starEach rest env))) (kAc v Q) E s
def kMk (M : Model) (A : Around) (E : Value → Shared → Prop) (f : List Value → Sem Value) (Q : Value → Shared → Prop) (vs : List Value) (s : Shared) : Prop := wpAny M A (f vs) Q E s
def kAo (M : Model) (A : Around) (E : Value → Shared → Prop) (ts : List (Value → Sem Unit)) (xs : List Value) (Q : Unit → Shared → Prop) (_ : Unit) (s : Shared) : Prop := wpAny M A (assignInOrder ts xs) Q E s
def kAnd (M : Model) (A : Around) (E : Value → Shared → Prop) (env : Env) (rest : List PySem.Expr) (pos : Pos) (whole : Sem Value) (Q : Bool → Shared → Prop) (c : Bool) (s : Shared) : Prop := if c = true then wpAny M A (isTrue (.BoolOp .And rest pos) env whole) Q E s else Q false s
section
variable {M : Model} {A : Around} {E : Value → Shared → Prop} {s : Shared} {env : Env}
theorem rN {st : Stmt} {rest : List Stmt} {Q : Flow → Shared → Prop} (h : wpAny M A (exec st env) (kN M A E env rest Q) E s) : wpAny M A (execs (st :: rest) env) Q E s := wpAny_execs_cons (wpAny_mono h (fun f _ q => by cases f <;> exact q) fun _ _ e => e)
theorem gN {rest : List Stmt} {Q : Flow → Shared → Prop} (h : wpAny M A (execs rest env) Q E s) : kN M A E env rest Q .next s := h
theorem gNr {rest : List Stmt} {Q : Flow → Shared → Prop} {v : Value} (h : Q (.ret v) s) : kN M A E env rest Q (.ret v) s := h
theorem rIf {test : PySem.Expr} {a b : List Stmt} {pos : Pos} {Q : Flow → Shared → Prop} (h : wpAny M A (isTrue test env (eval test env)) (kIf M A E env a b Q) E s) : wpAny M A (exec (.If test a b pos) env) Q E s := wpAny_If h
theorem gIf1 {a b : List Stmt} {Q : Flow → Shared → Prop} (h : wpAny M A (execs a env) Q E s) : kIf M A E env a b Q true s := h
theorem gIf0 {a b : List Stmt} {Q : Flow → Shared → Prop} (h : wpAny M A (execs b env) Q E s) : kIf M A E env a b Q false s := h
theorem gIf {a b : List Stmt} {Q : Flow → Shared → Prop} {c : Bool} (h : if c = true then wpAny M A (execs a env) Q E s else wpAny M A (execs b env) Q E s) : kIf M A E env a b Q c s := h
theorem rIe {test a b : PySem.Expr} {pos : Pos} {Q : Value → Shared → Prop} (h : wpAny M A (isTrue test env (eval test env)) (kIe M A E env a b Q) E s) : wpAny M A (eval (.IfExp test a b pos) env) Q E s := IfExp_ h
theorem gIe1 {a b : PySem.Expr} {Q : Value → Shared → Prop} (h : wpAny M A (eval a env) Q E s) : kIe M A E env a b Q true s := h
theorem gIe0 {a b : PySem.Expr} {Q : Value → Shared → Prop} (h : wpAny M A (eval b env) Q E s) : kIe M A E env a b Q false s := h
theorem gIe {a b : PySem.Expr} {Q : Value → Shared → Prop} {c : Bool} (h : if c = true then wpAny M A (eval a env) Q E s else wpAny M A (eval b env) Q E s) : kIe M A E env a b Q c s := h
theorem rRt {e : PySem.Expr} {pos : Pos} {Q : Flow → Shared → Prop} (h : wpAny M A (eval e env) (kRt Q) E s) : wpAny M A (exec (.Return (some e) pos) env) Q E s := wpAny_Return_some h
theorem gRt {Q : Flow → Shared → Prop} {v : Value} (h : Q (.ret v) s) : kRt Q v s := h
theorem gX {α : Type} {Q : Flow → Shared → Prop} {u : α} (h : Q .next s) : kX Q u s := h
theorem rSt {x : Str} {pos' pos : Pos} {value : PySem.Expr} {Q : Flow → Shared → Prop} (hs : swapsWith value (some (.Name x pos')) pos.line env = pure false) (h : wpAny M A (eval value env) (kSt M A E env x Q) E s) : wpAny M A (exec (.Assign [.Name x pos'] value pos) env) Q E s := wpAny_Assign_Name h hs
theorem gSt {x : Str} {Q : Flow → Shared → Prop} {v : Value} (h : wpAny M A (storeName env x v) (kX Q) E s) : kSt M A E env x Q v s := h
theorem gTr {Q : Bool → Shared → Prop} {v : Value} (h : wpAny M A (truthy v) Q E s) : kTr M A E Q v s := h
theorem gOp2 {f : Value → Value → Sem Value} {a b : Value} {Q : Value → Shared → Prop} (h : wpAny M A (f a b) Q E s) : kOp2 M A E f a Q b s := h
theorem gOp1 {f : Value → Value → Sem Value} {r : PySem.Expr} {a : Value} {Q : Value → Shared → Prop} (h : wpAny M A (eval r env) (kOp2 M A E f a Q) E s) : kOp1 M A E env f r Q a s := h
theorem rBin {l r : PySem.Expr} {op : Operator} {pos : Pos} {Q : Value → Shared → Prop} (h : wpAny M A (eval l env) (kOp1 M A E env (binaryOp op) r Q) E s) : wpAny M A (eval (.BinOp l op r pos) env) Q E s := wpAny_BinOp h
theorem rCmp {l r : PySem.Expr} {op : CmpOp} {pos : Pos} {Q : Value → Shared → Prop} (hm : behindInMarks op r = false) (h : wpAny M A (eval l env) (kOp1 M A E env (compareOp op) r Q) E s) : wpAny M A (eval (.Compare l [op] [r] pos) env) Q E s := wpAny_Compare1 h hm
theorem rTst {l r : PySem.Expr} {op : CmpOp} {pos : Pos} {whole : Sem Value} {Q : Bool → Shared → Prop} (hm : behindInMarks op r = false) (h : wpAny M A (eval l env) (kOp1 M A E env (compareOp op) r (kTr M A E Q)) E s) : wpAny M A (isTrue (.Compare l [op] [r] pos) env whole) Q E s := wpAny_isTrue_Compare1 h hm
theorem rSub {value slice : PySem.Expr} {pos : Pos} {Q : Value → Shared → Prop} (h : wpAny M A (eval value env) (kOp1 M A E env (subscriptTail value slice) slice Q) E s) : wpAny M A (eval (.Subscript value slice pos) env) Q E s := Subscript_ h
theorem rCall {func : PySem.Expr} {args : List PySem.Expr} {pos : Pos} {Q : Value → Shared → Prop} (he : eval (.Call func args [] pos) env = (do callWith pos (← eval func env) [] (backTo pos (starEach args env)) (backToKw pos (keywordEach [] env)))) (h : wpAny M A (eval func env) (kCw M A E env args pos Q) E s) : wpAny M A (eval (.Call func args [] pos) env) Q E s := Call_ h he
theorem gCw {args : List PySem.Expr} {pos : Pos} {Q : Value → Shared → Prop} {f : Value} (h : wpAny M A (callWith pos f [] (backTo pos (starEach args env)) []) Q E s) : kCw M A E env args pos Q f s := h
theorem rCk {K : Frag} {pos : Pos} {f : Value} {h₀ : Heap} {e : PySem.Expr} {rest : List PySem.Expr} {Q : Value → Shared → Prop} (X : K.In h₀) (hk : keepIn K f = true) (he : starEach (e :: rest) env = (false, eval e env) :: starEach rest env) (hp : (backTo pos (starEach rest env)).any (·.1) = false) (h : wpAny M A (spliced (backTo pos (starEach (e :: rest) env))) (kCk M A E K f Q) E s) : wpAny M A (callWith pos f [] (backTo pos (starEach (e :: rest) env)) []) Q E s := callWith_K X hk h he hp
theorem gCk {K : Frag} {f : Value} {vs : List Value} {Q : Value → Shared → Prop} (X : K.In s.heap) (h : wpAny M A (call f vs) Q E s) : kCk M A E K f Q vs s := ⟨X, h⟩
theorem rCb {pos : Pos} {id : String} {e : PySem.Expr} {rest : List PySem.Expr} {Q : Value → Shared → Prop} (he : starEach (e :: rest) env = (false, eval e env) :: starEach rest env) (hp : (backTo pos (starEach rest env)).any (·.1) = false) (h : wpAny M A (spliced (backTo pos (starEach (e :: rest) env))) (kCb M A E (.builtin id) Q) E s) : wpAny M A (callWith pos (.builtin id) [] (backTo pos (starEach (e :: rest) env)) []) Q E s := callWith_builtin1 h he hp
theorem gCb {f : Value} {vs : List Value} {Q : Value → Shared → Prop} (h : wpAny M A (call f vs) Q E s) : kCb M A E f Q vs s := h
theorem rAr {e : PySem.Expr} {rest : List PySem.Expr} {pos : Pos} {Q : List Value → Shared → Prop} (he : starEach (e :: rest) env = (false, eval e env) :: starEach rest env) (h : wpAny M A (eval e env) (kAr M A E env rest pos Q) E s) : wpAny M A (spliced (backTo pos (starEach (e :: rest) env))) Q E s := args_cons h he
theorem gAr {rest : List PySem.Expr} {pos : Pos} {Q : List Value → Shared → Prop} {v : Value} (h : wpAny M A (spliced (backTo pos (starEach rest env))) (kAc v Q) E s) : kAr M A E env rest pos Q v s := h
theorem gAr0 {pos : Pos} {Q : List Value → Shared → Prop} {v : Value} (h : Q [v] s) : kAr M A E env [] pos Q v s := args_nil h
theorem gAc {v : Value} {vs : List Value} {Q : List Value → Shared → Prop} (h : Q (v :: vs) s) : kAc v Q vs s := h
theorem rLst {elts : List PySem.Expr} {pos : Pos} {Q : Value → Shared → Prop} (h : wpAny M A (spliced (backTo pos (starEach elts env))) (kMk M A E newList Q) E s) : wpAny M A (eval (.List elts pos) env) Q E s := List_ h
theorem rTup {elts : List PySem.Expr} {k : Nat} {pos : Pos} {Q : Value → Shared → Prop} (h : wpAny M A (spliced (backTo pos (starEach elts env))) (kMk M A E newTuple Q) E s) : wpAny M A (eval (.Tuple elts k pos) env) Q E s := Tuple_ h
theorem gMk {f : List Value → Sem Value} {vs : List Value} {Q : Value → Shared → Prop} (h : wpAny M A (f vs) Q E s) : kMk M A E f Q vs s := h
theorem rAo {t : Value → Sem Unit} {ts : List (Value → Sem Unit)} {x : Value} {xs : List Value} {Q : Unit → Shared → Prop} (h : wpAny M A (t x) (kAo M A E ts xs Q) E s) : wpAny M A (assignInOrder (t :: ts) (x :: xs)) Q E s := assignInOrder_cons h
theorem gAo {ts : List (Value → Sem Unit)} {xs : List Value} {Q : Unit → Shared → Prop} {u : Unit} (h : wpAny M A (assignInOrder ts xs) Q E s) : kAo M A E ts xs Q u s := h
theorem rAnd {x : PySem.Expr} {rest : List PySem.Expr} {pos : Pos} {whole : Sem Value} {Q : Bool → Shared → Prop} (h : wpAny M A (isTrue x env (eval x env)) (kAnd M A E env rest pos whole Q) E s) : wpAny M A (isTrue (.BoolOp .And (x :: rest) pos) env whole) Q E s := isTrue_and h
theorem gAnd {rest : List PySem.Expr} {pos : Pos} {whole : Sem Value} {Q : Bool → Shared → Prop} {c : Bool} (h : if c = true then wpAny M A (isTrue (.BoolOp .And rest pos) env whole) Q E s else Q false s) : kAnd M A E env rest pos whole Q c s := h
section
variable {hp : Heap} {gs : Array GenState} {dr : Drawn} {tk : Nat} {os : OsState} {w : World} {h₀ : Heap} {L a : Addr} {m : Str → Option Value} {cn : Str} {cs : Scope} {ccd : Value} {cl : List (Str × Addr)} {news : List (Addr × Obj)} {x : Str} {v : Value}
theorem cInt {i : Int} {k : Nat} {pos : Pos} {Q : Value → Shared → Prop} (h : Q (.int i tk) ⟨hp, gs, dr, tk + 1, os⟩) : wpAny M A (eval (.Constant (.int i) k pos) env) Q E ⟨hp, gs, dr, tk, os⟩ := wpAny_Constant_int h
theorem cStr {i : Str} {k : Nat} {pos : Pos} {Q : Value → Shared → Prop} (h : Q (.str i tk) ⟨hp, gs, dr, tk + 1, os⟩) : wpAny M A (eval (.Constant (.str i) k pos) env) Q E ⟨hp, gs, dr, tk, os⟩ := wpAny_Constant_str h
theorem storeX_LF {Q : Unit → Shared → Prop} (F : Fr h₀ L hp m) (N : News h₀ L hp news) (hk : cs.kind = .function) (hx : (envX cn cs L a ccd cl).kindOf x = some .local)
    (h : ∀ h', Fr h₀ L h' (fun y => if y = x then some v else m y) → News h₀ L h' news → Q () ⟨h', gs, dr, tk + 1, os⟩) : wpAny M A (storeName (envX cn cs L a ccd cl) x v) Q E ⟨hp, gs, dr, tk, os⟩ := storeX_L (s := ⟨hp, gs, dr, tk, os⟩) F N h hk hx
theorem newList_KF {vs : List Value} {Q : Value → Shared → Prop} (F : Fr h₀ L hp m) (N : News h₀ L hp news) (hsz : vs.length ≤ sizeLine)
    (h : ∀ l h', Fr h₀ L h' m → News h₀ L h' ((l, listOf vs.toArray 0) :: news) → (∀ p ∈ news, p.1 < l) → Q (.ref l) ⟨h', gs, dr, tk, os⟩) : wpAny M A (newList vs) Q E ⟨hp, gs, dr, tk, os⟩ := newList_K (s := ⟨hp, gs, dr, tk, os⟩) F N h hsz
variable {n : Nat} {f : Value} {args : List Value} {Q : Value → Shared → Prop}
theorem Calls.useP {P : Value → Heap → Prop} (C : Calls w n f args hp P) (F : Fr h₀ L hp m) (N : News h₀ L hp news)
    (k : ∀ v h' tk', P v h' → Fr h₀ L h' m → News h₀ L h' news → (∀ b o, hp.get? b = some o → h'.get? b = some o) → Q v ⟨h', gs, dr, tk', os⟩)
    (hh : autoParam (A.handled = none) auK) (hd : autoParam (A.depth ≤ n) auD) (hu : autoParam (A.units ≤ 8 * n) auD) :
    wpAny (model Challenge.rw_np0089_01.row.prog w) A (call f args) Q E ⟨hp, gs, dr, tk, os⟩ :=
  C A ⟨hp, gs, dr, tk, os⟩ Q E hh hd hu rfl fun v h' tk' st p => k v h' tk' p (F.keeps st) (N.grown st) st
theorem Calls.useI {r : Tok → Value} (C : Calls w n f args hp (fun v _ => ∃ t, v = r t)) (F : Fr h₀ L hp m) (N : News h₀ L hp news)
    (k : ∀ t h' tk', Fr h₀ L h' m → News h₀ L h' news → (∀ b o, hp.get? b = some o → h'.get? b = some o) → Q (r t) ⟨h', gs, dr, tk', os⟩)
    (hh : autoParam (A.handled = none) auK) (hd : autoParam (A.depth ≤ n) auD) (hu : autoParam (A.units ≤ 8 * n) auD) :
    wpAny (model Challenge.rw_np0089_01.row.prog w) A (call f args) Q E ⟨hp, gs, dr, tk, os⟩ :=
  Calls.useP C F N (fun _ h' tk' ⟨t, e⟩ F N st => e ▸ k t h' tk' F N st) hh hd hu
theorem Calls.useE {r : Value} (C : Calls w n f args hp (fun v _ => v = r)) (F : Fr h₀ L hp m) (N : News h₀ L hp news)
    (k : ∀ h' tk', Fr h₀ L h' m → News h₀ L h' news → (∀ b o, hp.get? b = some o → h'.get? b = some o) → Q r ⟨h', gs, dr, tk', os⟩)
    (hh : autoParam (A.handled = none) auK) (hd : autoParam (A.depth ≤ n) auD) (hu : autoParam (A.units ≤ 8 * n) auD) :
    wpAny (model Challenge.rw_np0089_01.row.prog w) A (call f args) Q E ⟨hp, gs, dr, tk, os⟩ :=
  Calls.useP C F N (fun _ h' tk' e F N st => e ▸ k h' tk' F N st) hh hd hu
end
section
variable {M : Model} {A : Around} {E : Value → Shared → Prop} {s : Shared} {K : Frag} {h₀ : Heap} {L a : Addr} {m mg mb : Str → Option Value} {cn : Str} {cs : Scope} {ccd : Value} {p : Program} {loose : List Str} {x : Str} {pos : Pos} {v : Value} {Q : Value → Shared → Prop} {news : List (Addr × Obj)} {c : Addr} {o : Obj}
theorem nameC_K (F : Fr h₀ L s.heap m) (X : K.In h₀) (T : TopRead p loose mg mb h₀) (e : nsIn K mainGlobals x = some (some v)) (h : Q v s) (hk : cs.kind = .function) (hx : (envOfC cn cs L a ccd).kindOf x = some .globalImplicit) (hd : autoParam ((x == ("__debug__" : Str)) = false) auC) :
    wpAny M A (eval (.Name x pos) (envOfC cn cs L a ccd)) Q E s := nameX_K (cl := cellsFrom (L + 1) cs.names []) F X T e h hk hx hd
theorem nameC_L (F : Fr h₀ L s.heap m) (hv : m x = some v) (h : Q v s) (hk : cs.kind = .function) (hx : (envOfC cn cs L a ccd).kindOf x = some .local) (hd : autoParam ((x == ("__debug__" : Str)) = false) auC) :
    wpAny M A (eval (.Name x pos) (envOfC cn cs L a ccd)) Q E s := nameX_L (cl := cellsFrom (L + 1) cs.names []) F hv h hk hx hd
theorem nameC_C (N : News h₀ L s.heap news) (hc : (cellsFrom (L + 1) cs.names []).lookup x = some c) (hm : (c, o) ∈ news) (hd : o.data = .cell (some v)) (h : Q v s) (hk : cs.kind = .function) (hx : (envOfC cn cs L a ccd).kindOf x = some .cell) (hb : autoParam ((x == ("__debug__" : Str)) = false) auC) :
    wpAny M A (eval (.Name x pos) (envOfC cn cs L a ccd)) Q E s := nameX_C (cl := cellsFrom (L + 1) cs.names []) N hc hm hd h hk hx hb
end
theorem Std.go {w : World} {h : Heap} {P : Prop} (S : Std w h) (k : (Mine.hd.heap_39 w.params).In h → ∀ p lo me mg mb, Top p lo me mg mb h → P) : P := let ⟨p, lo, me, mg, mb, T⟩ := S.T; k S.X p lo me mg mb T
end
theorem epsU {X : Type} {ne : Nonempty X} {P : X → Prop} (h : P (@Classical.epsilon X ne fun x => ¬ P x)) (x : X) : P x := by
  by_cases q : ∃ x, ¬ P x
  · exact absurd h (@Classical.epsilon_spec X (fun x => ¬ P x) q)
  · exact Classical.byContradiction fun n => q ⟨x, n⟩
noncomputable def zw : World := ⟨fun _ _ => 0, { strHash := fun _ => 0, shareClass := fun _ => 0, mergeTok := fun t => t, idOf := fun _ => 0, idOfShared := fun _ _ => 0, followText := fun _ => false, idOfImm := fun _ => 0 }⟩
noncomputable def zd : Drawn := {}
noncomputable def zs : Shared := {}
noncomputable def zA : Around := { handled := none, depth := 0, frames := none, guards := none, units := 0 }
noncomputable def zM : Model := model Challenge.rw_np0089_01.row.prog zw
end Mine.Internal
namespace Mine.Internal
def Qm (P : Prop) : Prop := P
theorem Qm.t {P : Prop} (h : P) : Qm P = True := eq_true h
inductive ZOn : Prop
  | mk
@[reducible] noncomputable def cN {X : Type} [Nonempty X] : X := Classical.ofNonempty
noncomputable def pj1 {X1 X2 : Type} (p : X1 × X2) : X1 := p.1
noncomputable def pl2 {X1 X2 : Type} (p : X1 × X2) : X2 := p.2
noncomputable def pj2 {X1 X2 X3 : Type} (p : X1 × X2 × X3) : X2 := p.2.1
noncomputable def pl3 {X1 X2 X3 : Type} (p : X1 × X2 × X3) : X3 := p.2.2
noncomputable def pj3 {X1 X2 X3 X4 : Type} (p : X1 × X2 × X3 × X4) : X3 := p.2.2.1
noncomputable def pl4 {X1 X2 X3 X4 : Type} (p : X1 × X2 × X3 × X4) : X4 := p.2.2.2
noncomputable def pj4 {X1 X2 X3 X4 X5 : Type} (p : X1 × X2 × X3 × X4 × X5) : X4 := p.2.2.2.1
noncomputable def pl5 {X1 X2 X3 X4 X5 : Type} (p : X1 × X2 × X3 × X4 × X5) : X5 := p.2.2.2.2
noncomputable def pj5 {X1 X2 X3 X4 X5 X6 : Type} (p : X1 × X2 × X3 × X4 × X5 × X6) : X5 := p.2.2.2.2.1
noncomputable def pl6 {X1 X2 X3 X4 X5 X6 : Type} (p : X1 × X2 × X3 × X4 × X5 × X6) : X6 := p.2.2.2.2.2
noncomputable def pj6 {X1 X2 X3 X4 X5 X6 X7 : Type} (p : X1 × X2 × X3 × X4 × X5 × X6 × X7) : X6 := p.2.2.2.2.2.1
noncomputable def pl7 {X1 X2 X3 X4 X5 X6 X7 : Type} (p : X1 × X2 × X3 × X4 × X5 × X6 × X7) : X7 := p.2.2.2.2.2.2
noncomputable def pj7 {X1 X2 X3 X4 X5 X6 X7 X8 : Type} (p : X1 × X2 × X3 × X4 × X5 × X6 × X7 × X8) : X7 := p.2.2.2.2.2.2.1
noncomputable def pl8 {X1 X2 X3 X4 X5 X6 X7 X8 : Type} (p : X1 × X2 × X3 × X4 × X5 × X6 × X7 × X8) : X8 := p.2.2.2.2.2.2.2
noncomputable def pj8 {X1 X2 X3 X4 X5 X6 X7 X8 X9 : Type} (p : X1 × X2 × X3 × X4 × X5 × X6 × X7 × X8 × X9) : X8 := p.2.2.2.2.2.2.2.1
noncomputable def pl9 {X1 X2 X3 X4 X5 X6 X7 X8 X9 : Type} (p : X1 × X2 × X3 × X4 × X5 × X6 × X7 × X8 × X9) : X9 := p.2.2.2.2.2.2.2.2
noncomputable def pj9 {X1 X2 X3 X4 X5 X6 X7 X8 X9 X10 : Type} (p : X1 × X2 × X3 × X4 × X5 × X6 × X7 × X8 × X9 × X10) : X9 := p.2.2.2.2.2.2.2.2.1
noncomputable def pl10 {X1 X2 X3 X4 X5 X6 X7 X8 X9 X10 : Type} (p : X1 × X2 × X3 × X4 × X5 × X6 × X7 × X8 × X9 × X10) : X10 := p.2.2.2.2.2.2.2.2.2
noncomputable def pj10 {X1 X2 X3 X4 X5 X6 X7 X8 X9 X10 X11 : Type} (p : X1 × X2 × X3 × X4 × X5 × X6 × X7 × X8 × X9 × X10 × X11) : X10 := p.2.2.2.2.2.2.2.2.2.1
noncomputable def pl11 {X1 X2 X3 X4 X5 X6 X7 X8 X9 X10 X11 : Type} (p : X1 × X2 × X3 × X4 × X5 × X6 × X7 × X8 × X9 × X10 × X11) : X11 := p.2.2.2.2.2.2.2.2.2.2
noncomputable def pj11 {X1 X2 X3 X4 X5 X6 X7 X8 X9 X10 X11 X12 : Type} (p : X1 × X2 × X3 × X4 × X5 × X6 × X7 × X8 × X9 × X10 × X11 × X12) : X11 := p.2.2.2.2.2.2.2.2.2.2.1
noncomputable def pl12 {X1 X2 X3 X4 X5 X6 X7 X8 X9 X10 X11 X12 : Type} (p : X1 × X2 × X3 × X4 × X5 × X6 × X7 × X8 × X9 × X10 × X11 × X12) : X12 := p.2.2.2.2.2.2.2.2.2.2.2
noncomputable def pj12 {X1 X2 X3 X4 X5 X6 X7 X8 X9 X10 X11 X12 X13 : Type} (p : X1 × X2 × X3 × X4 × X5 × X6 × X7 × X8 × X9 × X10 × X11 × X12 × X13) : X12 := p.2.2.2.2.2.2.2.2.2.2.2.1
noncomputable def pl13 {X1 X2 X3 X4 X5 X6 X7 X8 X9 X10 X11 X12 X13 : Type} (p : X1 × X2 × X3 × X4 × X5 × X6 × X7 × X8 × X9 × X10 × X11 × X12 × X13) : X13 := p.2.2.2.2.2.2.2.2.2.2.2.2
noncomputable def zT1 {X1 : Type} (ne : Nonempty (X1)) (P : X1 → Prop) : X1 := @Classical.epsilon (X1) ne fun z => ¬ P z
theorem epsT1 {X1 : Type} [ne : Nonempty (X1)] {P : X1 → Prop} (h : P (zT1 ne P)) (x1 : X1) : P x1 := Classical.byContradiction fun n => (@Classical.epsilon_spec (X1) (fun z => ¬ P z) ⟨x1, n⟩) h
noncomputable def zT2 {X1 X2 : Type} (ne : Nonempty (X1 × X2)) (P : X1 → X2 → Prop) : X1 × X2 := @Classical.epsilon (X1 × X2) ne fun z => ¬ P z.1 z.2
theorem epsT2 {X1 X2 : Type} [ne : Nonempty (X1 × X2)] {P : X1 → X2 → Prop} (h : P (pj1 (zT2 ne P)) (pl2 (zT2 ne P))) (x1 : X1) (x2 : X2) : P x1 x2 := Classical.byContradiction fun n => (@Classical.epsilon_spec (X1 × X2) (fun z => ¬ P z.1 z.2) ⟨⟨x1, x2⟩, n⟩) h
noncomputable def zT3 {X1 X2 X3 : Type} (ne : Nonempty (X1 × X2 × X3)) (P : X1 → X2 → X3 → Prop) : X1 × X2 × X3 := @Classical.epsilon (X1 × X2 × X3) ne fun z => ¬ P z.1 z.2.1 z.2.2
theorem epsT3 {X1 X2 X3 : Type} [ne : Nonempty (X1 × X2 × X3)] {P : X1 → X2 → X3 → Prop} (h : P (pj1 (zT3 ne P)) (pj2 (zT3 ne P)) (pl3 (zT3 ne P))) (x1 : X1) (x2 : X2) (x3 : X3) : P x1 x2 x3 := Classical.byContradiction fun n => (@Classical.epsilon_spec (X1 × X2 × X3) (fun z => ¬ P z.1 z.2.1 z.2.2) ⟨⟨x1, x2, x3⟩, n⟩) h
noncomputable def zT4 {X1 X2 X3 X4 : Type} (ne : Nonempty (X1 × X2 × X3 × X4)) (P : X1 → X2 → X3 → X4 → Prop) : X1 × X2 × X3 × X4 := @Classical.epsilon (X1 × X2 × X3 × X4) ne fun z => ¬ P z.1 z.2.1 z.2.2.1 z.2.2.2
theorem epsT4 {X1 X2 X3 X4 : Type} [ne : Nonempty (X1 × X2 × X3 × X4)] {P : X1 → X2 → X3 → X4 → Prop} (h : P (pj1 (zT4 ne P)) (pj2 (zT4 ne P)) (pj3 (zT4 ne P)) (pl4 (zT4 ne P))) (x1 : X1) (x2 : X2) (x3 : X3) (x4 : X4) : P x1 x2 x3 x4 := Classical.byContradiction fun n => (@Classical.epsilon_spec (X1 × X2 × X3 × X4) (fun z => ¬ P z.1 z.2.1 z.2.2.1 z.2.2.2) ⟨⟨x1, x2, x3, x4⟩, n⟩) h
noncomputable def zT5 {X1 X2 X3 X4 X5 : Type} (ne : Nonempty (X1 × X2 × X3 × X4 × X5)) (P : X1 → X2 → X3 → X4 → X5 → Prop) : X1 × X2 × X3 × X4 × X5 := @Classical.epsilon (X1 × X2 × X3 × X4 × X5) ne fun z => ¬ P z.1 z.2.1 z.2.2.1 z.2.2.2.1 z.2.2.2.2
theorem epsT5 {X1 X2 X3 X4 X5 : Type} [ne : Nonempty (X1 × X2 × X3 × X4 × X5)] {P : X1 → X2 → X3 → X4 → X5 → Prop} (h : P (pj1 (zT5 ne P)) (pj2 (zT5 ne P)) (pj3 (zT5 ne P)) (pj4 (zT5 ne P)) (pl5 (zT5 ne P))) (x1 : X1) (x2 : X2) (x3 : X3) (x4 : X4) (x5 : X5) : P x1 x2 x3 x4 x5 := Classical.byContradiction fun n => (@Classical.epsilon_spec (X1 × X2 × X3 × X4 × X5) (fun z => ¬ P z.1 z.2.1 z.2.2.1 z.2.2.2.1 z.2.2.2.2) ⟨⟨x1, x2, x3, x4, x5⟩, n⟩) h
noncomputable def zT6 {X1 X2 X3 X4 X5 X6 : Type} (ne : Nonempty (X1 × X2 × X3 × X4 × X5 × X6)) (P : X1 → X2 → X3 → X4 → X5 → X6 → Prop) : X1 × X2 × X3 × X4 × X5 × X6 := @Classical.epsilon (X1 × X2 × X3 × X4 × X5 × X6) ne fun z => ¬ P z.1 z.2.1 z.2.2.1 z.2.2.2.1 z.2.2.2.2.1 z.2.2.2.2.2
theorem epsT6 {X1 X2 X3 X4 X5 X6 : Type} [ne : Nonempty (X1 × X2 × X3 × X4 × X5 × X6)] {P : X1 → X2 → X3 → X4 → X5 → X6 → Prop} (h : P (pj1 (zT6 ne P)) (pj2 (zT6 ne P)) (pj3 (zT6 ne P)) (pj4 (zT6 ne P)) (pj5 (zT6 ne P)) (pl6 (zT6 ne P))) (x1 : X1) (x2 : X2) (x3 : X3) (x4 : X4) (x5 : X5) (x6 : X6) : P x1 x2 x3 x4 x5 x6 := Classical.byContradiction fun n => (@Classical.epsilon_spec (X1 × X2 × X3 × X4 × X5 × X6) (fun z => ¬ P z.1 z.2.1 z.2.2.1 z.2.2.2.1 z.2.2.2.2.1 z.2.2.2.2.2) ⟨⟨x1, x2, x3, x4, x5, x6⟩, n⟩) h
noncomputable def zT7 {X1 X2 X3 X4 X5 X6 X7 : Type} (ne : Nonempty (X1 × X2 × X3 × X4 × X5 × X6 × X7)) (P : X1 → X2 → X3 → X4 → X5 → X6 → X7 → Prop) : X1 × X2 × X3 × X4 × X5 × X6 × X7 := @Classical.epsilon (X1 × X2 × X3 × X4 × X5 × X6 × X7) ne fun z => ¬ P z.1 z.2.1 z.2.2.1 z.2.2.2.1 z.2.2.2.2.1 z.2.2.2.2.2.1 z.2.2.2.2.2.2
theorem epsT7 {X1 X2 X3 X4 X5 X6 X7 : Type} [ne : Nonempty (X1 × X2 × X3 × X4 × X5 × X6 × X7)] {P : X1 → X2 → X3 → X4 → X5 → X6 → X7 → Prop} (h : P (pj1 (zT7 ne P)) (pj2 (zT7 ne P)) (pj3 (zT7 ne P)) (pj4 (zT7 ne P)) (pj5 (zT7 ne P)) (pj6 (zT7 ne P)) (pl7 (zT7 ne P))) (x1 : X1) (x2 : X2) (x3 : X3) (x4 : X4) (x5 : X5) (x6 : X6) (x7 : X7) : P x1 x2 x3 x4 x5 x6 x7 := Classical.byContradiction fun n => (@Classical.epsilon_spec (X1 × X2 × X3 × X4 × X5 × X6 × X7) (fun z => ¬ P z.1 z.2.1 z.2.2.1 z.2.2.2.1 z.2.2.2.2.1 z.2.2.2.2.2.1 z.2.2.2.2.2.2) ⟨⟨x1, x2, x3, x4, x5, x6, x7⟩, n⟩) h
noncomputable def zT8 {X1 X2 X3 X4 X5 X6 X7 X8 : Type} (ne : Nonempty (X1 × X2 × X3 × X4 × X5 × X6 × X7 × X8)) (P : X1 → X2 → X3 → X4 → X5 → X6 → X7 → X8 → Prop) : X1 × X2 × X3 × X4 × X5 × X6 × X7 × X8 := @Classical.epsilon (X1 × X2 × X3 × X4 × X5 × X6 × X7 × X8) ne fun z => ¬ P z.1 z.2.1 z.2.2.1 z.2.2.2.1 z.2.2.2.2.1 z.2.2.2.2.2.1 z.2.2.2.2.2.2.1 z.2.2.2.2.2.2.2
theorem epsT8 {X1 X2 X3 X4 X5 X6 X7 X8 : Type} [ne : Nonempty (X1 × X2 × X3 × X4 × X5 × X6 × X7 × X8)] {P : X1 → X2 → X3 → X4 → X5 → X6 → X7 → X8 → Prop} (h : P (pj1 (zT8 ne P)) (pj2 (zT8 ne P)) (pj3 (zT8 ne P)) (pj4 (zT8 ne P)) (pj5 (zT8 ne P)) (pj6 (zT8 ne P)) (pj7 (zT8 ne P)) (pl8 (zT8 ne P))) (x1 : X1) (x2 : X2) (x3 : X3) (x4 : X4) (x5 : X5) (x6 : X6) (x7 : X7) (x8 : X8) : P x1 x2 x3 x4 x5 x6 x7 x8 := Classical.byContradiction fun n => (@Classical.epsilon_spec (X1 × X2 × X3 × X4 × X5 × X6 × X7 × X8) (fun z => ¬ P z.1 z.2.1 z.2.2.1 z.2.2.2.1 z.2.2.2.2.1 z.2.2.2.2.2.1 z.2.2.2.2.2.2.1 z.2.2.2.2.2.2.2) ⟨⟨x1, x2, x3, x4, x5, x6, x7, x8⟩, n⟩) h
noncomputable def zT9 {X1 X2 X3 X4 X5 X6 X7 X8 X9 : Type} (ne : Nonempty (X1 × X2 × X3 × X4 × X5 × X6 × X7 × X8 × X9)) (P : X1 → X2 → X3 → X4 → X5 → X6 → X7 → X8 → X9 → Prop) : X1 × X2 × X3 × X4 × X5 × X6 × X7 × X8 × X9 := @Classical.epsilon (X1 × X2 × X3 × X4 × X5 × X6 × X7 × X8 × X9) ne fun z => ¬ P z.1 z.2.1 z.2.2.1 z.2.2.2.1 z.2.2.2.2.1 z.2.2.2.2.2.1 z.2.2.2.2.2.2.1 z.2.2.2.2.2.2.2.1 z.2.2.2.2.2.2.2.2
theorem epsT9 {X1 X2 X3 X4 X5 X6 X7 X8 X9 : Type} [ne : Nonempty (X1 × X2 × X3 × X4 × X5 × X6 × X7 × X8 × X9)] {P : X1 → X2 → X3 → X4 → X5 → X6 → X7 → X8 → X9 → Prop} (h : P (pj1 (zT9 ne P)) (pj2 (zT9 ne P)) (pj3 (zT9 ne P)) (pj4 (zT9 ne P)) (pj5 (zT9 ne P)) (pj6 (zT9 ne P)) (pj7 (zT9 ne P)) (pj8 (zT9 ne P)) (pl9 (zT9 ne P))) (x1 : X1) (x2 : X2) (x3 : X3) (x4 : X4) (x5 : X5) (x6 : X6) (x7 : X7) (x8 : X8) (x9 : X9) : P x1 x2 x3 x4 x5 x6 x7 x8 x9 := Classical.byContradiction fun n => (@Classical.epsilon_spec (X1 × X2 × X3 × X4 × X5 × X6 × X7 × X8 × X9) (fun z => ¬ P z.1 z.2.1 z.2.2.1 z.2.2.2.1 z.2.2.2.2.1 z.2.2.2.2.2.1 z.2.2.2.2.2.2.1 z.2.2.2.2.2.2.2.1 z.2.2.2.2.2.2.2.2) ⟨⟨x1, x2, x3, x4, x5, x6, x7, x8, x9⟩, n⟩) h
noncomputable def zT10 {X1 X2 X3 X4 X5 X6 X7 X8 X9 X10 : Type} (ne : Nonempty (X1 × X2 × X3 × X4 × X5 × X6 × X7 × X8 × X9 × X10)) (P : X1 → X2 → X3 → X4 → X5 → X6 → X7 → X8 → X9 → X10 → Prop) : X1 × X2 × X3 × X4 × X5 × X6 × X7 × X8 × X9 × X10 := @Classical.epsilon (X1 × X2 × X3 × X4 × X5 × X6 × X7 × X8 × X9 × X10) ne fun z => ¬ P z.1 z.2.1 z.2.2.1 z.2.2.2.1 z.2.2.2.2.1 z.2.2.2.2.2.1 z.2.2.2.2.2.2.1 z.2.2.2.2.2.2.2.1 z.2.2.2.2.2.2.2.2.1 z.2.2.2.2.2.2.2.2.2
theorem epsT10 {X1 X2 X3 X4 X5 X6 X7 X8 X9 X10 : Type} [ne : Nonempty (X1 × X2 × X3 × X4 × X5 × X6 × X7 × X8 × X9 × X10)] {P : X1 → X2 → X3 → X4 → X5 → X6 → X7 → X8 → X9 → X10 → Prop} (h : P (pj1 (zT10 ne P)) (pj2 (zT10 ne P)) (pj3 (zT10 ne P)) (pj4 (zT10 ne P)) (pj5 (zT10 ne P)) (pj6 (zT10 ne P)) (pj7 (zT10 ne P)) (pj8 (zT10 ne P)) (pj9 (zT10 ne P)) (pl10 (zT10 ne P))) (x1 : X1) (x2 : X2) (x3 : X3) (x4 : X4) (x5 : X5) (x6 : X6) (x7 : X7) (x8 : X8) (x9 : X9) (x10 : X10) : P x1 x2 x3 x4 x5 x6 x7 x8 x9 x10 := Classical.byContradiction fun n => (@Classical.epsilon_spec (X1 × X2 × X3 × X4 × X5 × X6 × X7 × X8 × X9 × X10) (fun z => ¬ P z.1 z.2.1 z.2.2.1 z.2.2.2.1 z.2.2.2.2.1 z.2.2.2.2.2.1 z.2.2.2.2.2.2.1 z.2.2.2.2.2.2.2.1 z.2.2.2.2.2.2.2.2.1 z.2.2.2.2.2.2.2.2.2) ⟨⟨x1, x2, x3, x4, x5, x6, x7, x8, x9, x10⟩, n⟩) h
noncomputable def zT11 {X1 X2 X3 X4 X5 X6 X7 X8 X9 X10 X11 : Type} (ne : Nonempty (X1 × X2 × X3 × X4 × X5 × X6 × X7 × X8 × X9 × X10 × X11)) (P : X1 → X2 → X3 → X4 → X5 → X6 → X7 → X8 → X9 → X10 → X11 → Prop) : X1 × X2 × X3 × X4 × X5 × X6 × X7 × X8 × X9 × X10 × X11 := @Classical.epsilon (X1 × X2 × X3 × X4 × X5 × X6 × X7 × X8 × X9 × X10 × X11) ne fun z => ¬ P z.1 z.2.1 z.2.2.1 z.2.2.2.1 z.2.2.2.2.1 z.2.2.2.2.2.1 z.2.2.2.2.2.2.1 z.2.2.2.2.2.2.2.1 z.2.2.2.2.2.2.2.2.1 z.2.2.2.2.2.2.2.2.2.1 z.2.2.2.2.2.2.2.2.2.2
theorem epsT11 {X1 X2 X3 X4 X5 X6 X7 X8 X9 X10 X11 : Type} [ne : Nonempty (X1 × X2 × X3 × X4 × X5 × X6 × X7 × X8 × X9 × X10 × X11)] {P : X1 → X2 → X3 → X4 → X5 → X6 → X7 → X8 → X9 → X10 → X11 → Prop} (h : P (pj1 (zT11 ne P)) (pj2 (zT11 ne P)) (pj3 (zT11 ne P)) (pj4 (zT11 ne P)) (pj5 (zT11 ne P)) (pj6 (zT11 ne P)) (pj7 (zT11 ne P)) (pj8 (zT11 ne P)) (pj9 (zT11 ne P)) (pj10 (zT11 ne P)) (pl11 (zT11 ne P))) (x1 : X1) (x2 : X2) (x3 : X3) (x4 : X4) (x5 : X5) (x6 : X6) (x7 : X7) (x8 : X8) (x9 : X9) (x10 : X10) (x11 : X11) : P x1 x2 x3 x4 x5 x6 x7 x8 x9 x10 x11 := Classical.byContradiction fun n => (@Classical.epsilon_spec (X1 × X2 × X3 × X4 × X5 × X6 × X7 × X8 × X9 × X10 × X11) (fun z => ¬ P z.1 z.2.1 z.2.2.1 z.2.2.2.1 z.2.2.2.2.1 z.2.2.2.2.2.1 z.2.2.2.2.2.2.1 z.2.2.2.2.2.2.2.1 z.2.2.2.2.2.2.2.2.1 z.2.2.2.2.2.2.2.2.2.1 z.2.2.2.2.2.2.2.2.2.2) ⟨⟨x1, x2, x3, x4, x5, x6, x7, x8, x9, x10, x11⟩, n⟩) h
noncomputable def zT12 {X1 X2 X3 X4 X5 X6 X7 X8 X9 X10 X11 X12 : Type} (ne : Nonempty (X1 × X2 × X3 × X4 × X5 × X6 × X7 × X8 × X9 × X10 × X11 × X12)) (P : X1 → X2 → X3 → X4 → X5 → X6 → X7 → X8 → X9 → X10 → X11 → X12 → Prop) : X1 × X2 × X3 × X4 × X5 × X6 × X7 × X8 × X9 × X10 × X11 × X12 := @Classical.epsilon (X1 × X2 × X3 × X4 × X5 × X6 × X7 × X8 × X9 × X10 × X11 × X12) ne fun z => ¬ P z.1 z.2.1 z.2.2.1 z.2.2.2.1 z.2.2.2.2.1 z.2.2.2.2.2.1 z.2.2.2.2.2.2.1 z.2.2.2.2.2.2.2.1 z.2.2.2.2.2.2.2.2.1 z.2.2.2.2.2.2.2.2.2.1 z.2.2.2.2.2.2.2.2.2.2.1 z.2.2.2.2.2.2.2.2.2.2.2
theorem epsT12 {X1 X2 X3 X4 X5 X6 X7 X8 X9 X10 X11 X12 : Type} [ne : Nonempty (X1 × X2 × X3 × X4 × X5 × X6 × X7 × X8 × X9 × X10 × X11 × X12)] {P : X1 → X2 → X3 → X4 → X5 → X6 → X7 → X8 → X9 → X10 → X11 → X12 → Prop} (h : P (pj1 (zT12 ne P)) (pj2 (zT12 ne P)) (pj3 (zT12 ne P)) (pj4 (zT12 ne P)) (pj5 (zT12 ne P)) (pj6 (zT12 ne P)) (pj7 (zT12 ne P)) (pj8 (zT12 ne P)) (pj9 (zT12 ne P)) (pj10 (zT12 ne P)) (pj11 (zT12 ne P)) (pl12 (zT12 ne P))) (x1 : X1) (x2 : X2) (x3 : X3) (x4 : X4) (x5 : X5) (x6 : X6) (x7 : X7) (x8 : X8) (x9 : X9) (x10 : X10) (x11 : X11) (x12 : X12) : P x1 x2 x3 x4 x5 x6 x7 x8 x9 x10 x11 x12 := Classical.byContradiction fun n => (@Classical.epsilon_spec (X1 × X2 × X3 × X4 × X5 × X6 × X7 × X8 × X9 × X10 × X11 × X12) (fun z => ¬ P z.1 z.2.1 z.2.2.1 z.2.2.2.1 z.2.2.2.2.1 z.2.2.2.2.2.1 z.2.2.2.2.2.2.1 z.2.2.2.2.2.2.2.1 z.2.2.2.2.2.2.2.2.1 z.2.2.2.2.2.2.2.2.2.1 z.2.2.2.2.2.2.2.2.2.2.1 z.2.2.2.2.2.2.2.2.2.2.2) ⟨⟨x1, x2, x3, x4, x5, x6, x7, x8, x9, x10, x11, x12⟩, n⟩) h
noncomputable def zT13 {X1 X2 X3 X4 X5 X6 X7 X8 X9 X10 X11 X12 X13 : Type} (ne : Nonempty (X1 × X2 × X3 × X4 × X5 × X6 × X7 × X8 × X9 × X10 × X11 × X12 × X13)) (P : X1 → X2 → X3 → X4 → X5 → X6 → X7 → X8 → X9 → X10 → X11 → X12 → X13 → Prop) : X1 × X2 × X3 × X4 × X5 × X6 × X7 × X8 × X9 × X10 × X11 × X12 × X13 := @Classical.epsilon (X1 × X2 × X3 × X4 × X5 × X6 × X7 × X8 × X9 × X10 × X11 × X12 × X13) ne fun z => ¬ P z.1 z.2.1 z.2.2.1 z.2.2.2.1 z.2.2.2.2.1 z.2.2.2.2.2.1 z.2.2.2.2.2.2.1 z.2.2.2.2.2.2.2.1 z.2.2.2.2.2.2.2.2.1 z.2.2.2.2.2.2.2.2.2.1 z.2.2.2.2.2.2.2.2.2.2.1 z.2.2.2.2.2.2.2.2.2.2.2.1 z.2.2.2.2.2.2.2.2.2.2.2.2
theorem epsT13 {X1 X2 X3 X4 X5 X6 X7 X8 X9 X10 X11 X12 X13 : Type} [ne : Nonempty (X1 × X2 × X3 × X4 × X5 × X6 × X7 × X8 × X9 × X10 × X11 × X12 × X13)] {P : X1 → X2 → X3 → X4 → X5 → X6 → X7 → X8 → X9 → X10 → X11 → X12 → X13 → Prop} (h : P (pj1 (zT13 ne P)) (pj2 (zT13 ne P)) (pj3 (zT13 ne P)) (pj4 (zT13 ne P)) (pj5 (zT13 ne P)) (pj6 (zT13 ne P)) (pj7 (zT13 ne P)) (pj8 (zT13 ne P)) (pj9 (zT13 ne P)) (pj10 (zT13 ne P)) (pj11 (zT13 ne P)) (pj12 (zT13 ne P)) (pl13 (zT13 ne P))) (x1 : X1) (x2 : X2) (x3 : X3) (x4 : X4) (x5 : X5) (x6 : X6) (x7 : X7) (x8 : X8) (x9 : X9) (x10 : X10) (x11 : X11) (x12 : X12) (x13 : X13) : P x1 x2 x3 x4 x5 x6 x7 x8 x9 x10 x11 x12 x13 := Classical.byContradiction fun n => (@Classical.epsilon_spec (X1 × X2 × X3 × X4 × X5 × X6 × X7 × X8 × X9 × X10 × X11 × X12 × X13) (fun z => ¬ P z.1 z.2.1 z.2.2.1 z.2.2.2.1 z.2.2.2.2.1 z.2.2.2.2.2.1 z.2.2.2.2.2.2.1 z.2.2.2.2.2.2.2.1 z.2.2.2.2.2.2.2.2.1 z.2.2.2.2.2.2.2.2.2.1 z.2.2.2.2.2.2.2.2.2.2.1 z.2.2.2.2.2.2.2.2.2.2.2.1 z.2.2.2.2.2.2.2.2.2.2.2.2) ⟨⟨x1, x2, x3, x4, x5, x6, x7, x8, x9, x10, x11, x12, x13⟩, n⟩) h
noncomputable def zXc {X : Type} (ne : Nonempty X) (P : X → Prop) : X := @Classical.epsilon X ne P
theorem epsX {X : Type} [ne : Nonempty X] {P : X → Prop} (h : ∃ x, P x) : P (zXc ne P) := Classical.epsilon_spec h
end Mine.Internal
namespace Mine.Internal
noncomputable def zTop (h : Heap) : Program × List Str × (ExcName → Option Value) × (Str → Option Value) × (Str → Option Value) := Classical.epsilon fun z => Top z.1 z.2.1 z.2.2.1 z.2.2.2.1 z.2.2.2.2 h
@[irreducible] noncomputable def tP (h : Heap) : Program := (zTop h).1
@[irreducible] noncomputable def tL (h : Heap) : List Str := (zTop h).2.1
@[irreducible] noncomputable def tE (h : Heap) : ExcName → Option Value := (zTop h).2.2.1
@[irreducible] noncomputable def tG (h : Heap) : Str → Option Value := (zTop h).2.2.2.1
@[irreducible] noncomputable def tB (h : Heap) : Str → Option Value := (zTop h).2.2.2.2
theorem Std.top {w : World} {h : Heap} (S : Std w h) : Top (tP h) (tL h) (tE h) (tG h) (tB h) h := by
  unfold tP tL tE tG tB
  let ⟨p, lo, me, mg, mb, T⟩ := S.T
  exact Classical.epsilon_spec (p := fun z : Program × List Str × (ExcName → Option Value) × (Str → Option Value) × (Str → Option Value) => Top z.1 z.2.1 z.2.2.1 z.2.2.2.1 z.2.2.2.2 h) ⟨(p, lo, me, mg, mb), T⟩
theorem Std.go2 {w : World} {h : Heap} {P : Prop} (S : Std w h) (k : (Mine.hd.heap_39 w.params).In h → Top (tP h) (tL h) (tE h) (tG h) (tB h) h → P) : P := k S.X S.top
end Mine.Internal
namespace Mine.Internal
section
variable {prog : Program} {w : World} {A : Around} {E : Value → Shared → Prop} {s : Shared} {env : Env} {h₀ : Heap} {x : Str} {body : List Stmt} {Q : Flow → Shared → Prop}
theorem iter_vals {l : Addr} {vs : List Value} {m₀ : Str → Option Value} {news : List (Addr × Obj)} (J : Nat → (Str → Option Value) → Prop)
    (hh : A.handled = none) (hl : s.heap.IsList l vs.toArray) (hL : l ≠ env.locals) (F : Fr h₀ env.locals s.heap m₀) (N : News h₀ env.locals s.heap news) (hj : J 0 m₀)
    (turn : ∀ i v m₁ h tk own, vs[i]? = some v → J i m₁ → Fr h₀ env.locals h (fun y => if y = x then some v else m₁ y) → News h₀ env.locals h (own ++ news) →
      wpAny (model prog w) A (execs body env) (InvPost h₀ env.locals (J (i + 1)) (own ++ news) { s with heap := h, toks := tk } Q) E { s with heap := h, toks := tk })
    (done : ∀ m₁ h tk, J vs.length m₁ → Fr h₀ env.locals h m₁ → News h₀ env.locals h news → Q .next { s with heap := h, toks := tk }) :
    wpAny (model prog w) A (pyIter (.ref l)) (fun it s₂ => LoopAtV prog w A h₀ env x body Q E it s₂) E s := by
  obtain ⟨ol, hol, _⟩ := id hl
  have hlt : l < s.heap.objs.size := Heap.lt_size hol
  have hne : l ≠ s.heap.objs.size := Nat.ne_of_lt hlt
  refine wpAny_pyIter_list hl ?_
  have W := Walks.list (prog := prog) (w := w) hh s.heap.objs.size l hne vs.toArray
  have hlen : vs.toArray.size = vs.length := by simp
  rw [hlen] at W
  let J' : Nat → (Str → Option Value) → List (Addr × Obj) → Prop := fun i m₁ news₁ => news₁ = news ∧ J i m₁
  refine ⟨_, _, _, vs.length, _, _, m₀, news, J', rfl, W, ?_, ?_, ?_, ⟨⟨_, Heap.get?_push_size _ rfl, rfl, rfl⟩, hl.at fun o e => Heap.get?_push_of_some _ e⟩, F.push _, (fun p hp => ⟨Heap.get?_push_of_some _ (N p hp).1, (N p hp).2⟩), ⟨rfl, hj⟩, ?_, ?_⟩
  · intro hm
    rcases List.mem_cons.mp hm with e | hm
    · exact absurd F.ns.lt (e ▸ Nat.lt_irrefl _)
    · exact hL (List.mem_singleton.mp hm).symm
  · intro b hb
    rw [List.mem_singleton.mp hb]
    exact next_is_new F
  · intro p hp hI
    exact absurd (Heap.lt_size (N p hp).1) ((List.mem_singleton.mp hI) ▸ Nat.lt_irrefl _)
  · rintro i v m₁ news₁ s₁ own ⟨hh', tk', rfl⟩ hin hP ⟨rfl, hJ⟩ hoff _ _ _ _ F₁ N₁
    have hv : vs[i]? = some v := by simpa using hP
    refine wpAny_mono (turn i v m₁ hh' tk' own hv hJ F₁ N₁) (fun f s₂ p => ?_) fun _ _ e => e
    have fin : InvEnd h₀ env.locals (J (i + 1)) (own ++ news₁) { s with heap := hh', toks := tk' } s₂ → LoopStepU h₀ env.locals [s.heap.objs.size] own (J' (i + 1)) { s with heap := hh', toks := tk' } .next s₂ := by
      rintro ⟨h', tk, m', news', e, F', N', hn, hm⟩
      exact ⟨rfl, h', tk, m', news₁, e, F', fun p hp => N' p (hn p hp), hoff, rfl, hm⟩
    cases f with
    | ret v => exact .ret p
    | brk => exact .brk p
    | next => exact .next (fin p)
    | cont => exact .cont (fin p)
  · rintro h' tk m' news' F' N' _ ⟨rfl, hJ⟩
    exact done m' h' tk hJ F' N'

theorem iter_accV {l : Addr} {vs : List Value} {ns : List Int} {m₀ : Str → Option Value} {news : List (Addr × Obj)} {y : Str} {a₀ : Int} {t₀ : Tok} (g : Int → Int → Int)
    (hh : A.handled = none) (hl : s.heap.IsList l vs.toArray) (hL : l ≠ env.locals) (hlen : vs.length = ns.length) (F : Fr h₀ env.locals s.heap m₀) (N : News h₀ env.locals s.heap news) (hy : m₀ y = some (.int a₀ t₀)) (hyx : y ≠ x)
    (turn : ∀ i v n a ta h tk own, vs[i]? = some v → ns[i]? = some n → a = (ns.take i).foldl g a₀ → Fr h₀ env.locals h (fun z => if z = x then some v else if z = y then some (.int a ta) else m₀ z) → News h₀ env.locals h (own ++ news) →
      wpAny (model prog w) A (execs body env) (InvPost h₀ env.locals (fun m' => (∃ t', m' y = some (.int (g a n) t')) ∧ ∀ z, z ≠ x → z ≠ y → m' z = m₀ z) (own ++ news) { s with heap := h, toks := tk } Q) E { s with heap := h, toks := tk })
    (done : ∀ (u : Str → Option Value) t h tk, Fr h₀ env.locals h (fun z => if z = x then u z else if z = y then some (.int (ns.foldl g a₀) t) else m₀ z) → News h₀ env.locals h news → Q .next { s with heap := h, toks := tk }) :
    wpAny (model prog w) A (pyIter (.ref l)) (fun it s₂ => LoopAtV prog w A h₀ env x body Q E it s₂) E s := by
  refine iter_vals (vs := vs) (fun i m => (∃ t, m y = some (.int ((ns.take i).foldl g a₀) t)) ∧ ∀ z, z ≠ x → z ≠ y → m z = m₀ z) hh hl hL F N ⟨⟨t₀, by simpa using hy⟩, fun _ _ _ => rfl⟩ ?_ ?_
  · rintro i v m₁ h tk own hv ⟨⟨ta, ha⟩, hm⟩ F₁ N₁
    have hi : i < ns.length := by rw [← hlen]; exact (List.getElem?_eq_some_iff.mp hv).1
    have hn : ns[i]? = some ns[i] := by simp [hi]
    have e : (fun z => if z = x then some v else m₁ z) = fun z => if z = x then some v else if z = y then some (Value.int ((ns.take i).foldl g a₀) ta) else m₀ z := by
      funext z
      by_cases h1 : z = x
      · simp [h1]
      · simp only [if_neg h1]
        by_cases h2 : z = y
        · subst h2; simp [ha]
        · simp only [if_neg h2]; exact hm z h1 h2
    rw [e] at F₁
    have hs : (ns.take (i + 1)).foldl g a₀ = g ((ns.take i).foldl g a₀) ns[i] := by
      rw [List.take_add_one, List.foldl_append, hn]; rfl
    rw [hs]
    exact turn i v ns[i] _ ta h tk own hv hn rfl F₁ N₁
  · rintro m₁ h tk ⟨⟨t, ha⟩, hm⟩ F₁ N₁
    rw [hlen, List.take_length] at ha
    refine done m₁ t h tk ?_ N₁
    have e : (fun z => if z = x then m₁ z else if z = y then some (Value.int (ns.foldl g a₀) t) else m₀ z) = m₁ := by
      funext z
      by_cases h1 : z = x
      · simp [h1]
      · simp only [if_neg h1]
        by_cases h2 : z = y
        · subst h2; simp [ha]
        · simp only [if_neg h2]; exact (hm z h1 h2).symm
    rw [e]; exact F₁
end
def NumsAt (h : Heap) (vs : List Value) (ns : List Int) : Prop := vs.length = ns.length ∧ ∀ (i : Nat) (v : Value) (n : Int), vs[i]? = some v → ns[i]? = some n → NumAt h v n
theorem NumsAt.keeps {h h' : Heap} {vs : List Value} {ns : List Int} (x : NumsAt h vs ns) (k : h.StaysIn h') : NumsAt h' vs ns := ⟨x.1, fun i v n a b => (x.2 i v n a b).keeps k⟩
theorem locals_ne {h₀ h : Heap} {L l : Addr} {m : Str → Option Value} {its : Array Value} (F : Fr h₀ L h m) (hl : h₀.IsList l its) : l ≠ L := by
  obtain ⟨o, ho, _⟩ := hl
  exact Nat.ne_of_lt (Nat.lt_of_lt_of_le (Heap.lt_size ho) F.above)
theorem fr_list {h₀ h : Heap} {L l : Addr} {m : Str → Option Value} {its : Array Value} (F : Fr h₀ L h m) (hl : h₀.IsList l its) : h.IsList l its := hl.at fun o e => F.keep l o e
section
variable {prog : Program} {w : World} {A : Around} {E : Value → Shared → Prop} {s : Shared} {env : Env} {h₀ : Heap} {x : Str} {body : List Stmt} {Q : Flow → Shared → Prop}
theorem for_inv {m : Str → Option Value} {px pos : Pos} {iter : Expr} (_F : Fr h₀ env.locals s.heap m) (hx : env.kindOf x = some .local)
    (hp : (env.scope.kind == .class || (env.scope.kind == .module && env.locals != env.globals)) = false)
    (h : wpAny (model prog w) A (eval iter env) (fun xv s₁ => wpAny (model prog w) A (pyIter xv) (fun it s₂ => LoopAtV prog w A h₀ env x body Q E it s₂) E s₁) E s)
    (hs : autoParam (∀ x, foldedSetIterable iter env x = pure x) auJ)
    (hE : autoParam (PassesOwn (model prog w) A env E) auP) :
    wpAny (model prog w) A (exec (.For (.Name x px) iter body [] pos) env) Q E s := For_invV h₀ hx hp h hs hE
end
def Fits (g : Int → Int → Int) (a₀ : Int) (ns : List Int) : Prop := ∀ (i : Nat) (n : Int), ns[i]? = some n → (Builtin.Int.intBits (g ((ns.take i).foldl g a₀) n) : Int) ≤ 65536
theorem Fits.at {g : Int → Int → Int} {a₀ : Int} {ns : List Int} {i : Nat} {n a : Int} (h : Fits g a₀ ns) (hn : ns[i]? = some n) (ha : a = (ns.take i).foldl g a₀) : (Builtin.Int.intBits (g a n) : Int) ≤ 65536 := by
  subst ha; exact h i n hn
theorem NumsAt.len {h : Heap} {vs : List Value} {ns : List Int} (x : NumsAt h vs ns) : vs.length = ns.length := x.1
theorem NumsAt.item {h : Heap} {vs : List Value} {ns : List Int} (x : NumsAt h vs ns) {i : Nat} {v : Value} {n : Int} (a : vs[i]? = some v) (b : ns[i]? = some n) : NumAt h v n := x.2 i v n a b
def FoldWith (_y : Str) (_g : Int → Int → Int) : Prop := True
section
variable {prog : Program} {w : World} {A : Around} {E : Value → Shared → Prop} {s : Shared} {env : Env} {h₀ : Heap} {x : Str} {body : List Stmt} {Q : Flow → Shared → Prop}
theorem iter_accW {l : Addr} {vs : List Value} {ns : List Int} {m₀ : Str → Option Value} {news : List (Addr × Obj)} {y : Str} {a₀ : Int} {t₀ : Tok} {g : Int → Int → Int} (_ : FoldWith y g)
    (hh : A.handled = none) (hl : s.heap.IsList l vs.toArray) (hL : l ≠ env.locals) (hlen : vs.length = ns.length) (F : Fr h₀ env.locals s.heap m₀) (N : News h₀ env.locals s.heap news) (hy : m₀ y = some (.int a₀ t₀)) (hyx : y ≠ x)
    (turn : ∀ i v n a ta h tk own, vs[i]? = some v → ns[i]? = some n → a = (ns.take i).foldl g a₀ → Fr h₀ env.locals h (fun z => if z = x then some v else if z = y then some (.int a ta) else m₀ z) → News h₀ env.locals h (own ++ news) →
      wpAny (model prog w) A (execs body env) (InvPost h₀ env.locals (fun m' => (∃ t', m' y = some (.int (g a n) t')) ∧ ∀ z, z ≠ x → z ≠ y → m' z = m₀ z) (own ++ news) { s with heap := h, toks := tk } Q) E { s with heap := h, toks := tk })
    (done : ∀ (u : Str → Option Value) t h tk, Fr h₀ env.locals h (fun z => if z = x then u z else if z = y then some (.int (ns.foldl g a₀) t) else m₀ z) → News h₀ env.locals h news → Q .next { s with heap := h, toks := tk }) :
    wpAny (model prog w) A (pyIter (.ref l)) (fun it s₂ => LoopAtV prog w A h₀ env x body Q E it s₂) E s := iter_accV g hh hl hL hlen F N hy hyx turn done
end
theorem locals_neN {h₀ h : Heap} {L l : Addr} {o : Obj} {news : List (Addr × Obj)} (N : News h₀ L h news) (hm : (l, o) ∈ news) : l ≠ L := (N _ hm).2.1
theorem shortF : shortFactorBits = 64 := rfl
theorem mul_ok {a n : Int} (h : Builtin.Int.intBits a + Builtin.Int.intBits n ≤ 1000000) : IntMulOk a n := by
  unfold IntMulOk
  intro q
  simp only [Bool.and_eq_true, decide_eq_true_eq] at q
  have h2 := q.2
  unfold Builtin.Int.intTooBig at h2
  have h3 := of_decide_eq_true h2
  have : (bitsLine : Int) ≥ 1000000 := by decide
  omega

end Mine.Internal
namespace Mine.Internal
section
variable {prog : Program} {w : World} {A : Around} {E : Value → Shared → Prop} {s : Shared}
theorem len_vals {l : Addr} {vs : List Value} {Q : Value → Shared → Prop} (hl : s.heap.IsList l vs.toArray) (hb : vs.length < 1000)
    (h : Q (.int (vs.length : Int) (s.toks + 1)) { s with toks := s.toks + 1 + 1 }) : wpAny (model prog w) A (call (.builtin "len") [.ref l]) Q E s :=
  len_list hl (by simp only [List.size_toArray]; omega) (by simpa using h)
end
theorem slice1_eq (v : Value) (vs : List Value) : slicePick (v :: vs).toArray (some 1) none none = vs.toArray := by
  rw [kms_pick_eq]
  congr 1
  show (List.drop (kms_lo (some 1) (vs.length + 1)) (v :: vs)).take (kms_hi none (vs.length + 1) - kms_lo (some 1) (vs.length + 1)) = vs
  have e1 : kms_lo (some 1) (vs.length + 1) = 1 := by simp [kms_lo]
  have e2 : kms_hi none (vs.length + 1) = vs.length + 1 := by simp [kms_hi]
  rw [e1, e2]
  simp
theorem slice1_list {h : Heap} {l : Addr} {v : Value} {vs : List Value} (hl : h.IsList l (slicePick (v :: vs).toArray (some 1) none none)) : h.IsList l vs.toArray := by
  rw [slice1_eq] at hl; exact hl

end Mine.Internal
namespace Mine.Internal
section
variable {prog : Program} {w : World} {A : Around} {E : Value → Shared → Prop} {s : Shared} {env : Env} {h₀ : Heap} {L : Addr} {m : Str → Option Value} {news : List (Addr × Obj)}
def EltPost (G : Value → Value → Prop) (v : Value) (s₃ : Shared) (y : Value) (s₄ : Shared) : Prop := G v y ∧ Keeps s₃ s₄
theorem EltPost.intro {G : Value → Value → Prop} {v y : Value} {s₃ : Shared} {h' : Heap} {tk : Nat} (g : G v y) (k : ∀ b o, s₃.heap.get? b = some o → h'.get? b = some o) : EltPost G v s₃ y { s₃ with heap := h', toks := tk } := ⟨g, h', tk, rfl, k⟩
def EltOk (prog : Program) (w : World) (A : Around) (h₀ : Heap) (news : List (Addr × Obj)) (env : Env) (scope : Scope) (cl : List (Str × Addr)) (x : Str) (elt : Expr) (P : Nat → Value → Prop) (G : Value → Value → Prop) (s : Shared) : Prop :=
  ∀ (C : Addr) (i : Nat) (v : Value) (h : Heap) (g : Array GenState) (d : Drawn) (tk : Nat) (os : OsState) (m₃ : Str → Option Value), P i v → Fr h₀ C h m₃ → News h₀ C h news → m₃ x = some v → (∀ b o, s.heap.get? b = some o → h.get? b = some o) →
    wpAny (model prog w) A (eval elt (compEnvC scope cl C env)) (EltPost G v ⟨h, g, d, tk, os⟩) (fun _ _ => False) ⟨h, g, d, tk, os⟩
theorem fr_comp {s₂ s₃ : Shared} {C I : Addr} {m₃ : Str → Option Value} (F : Fr h₀ L s₂.heap m) (hC : s₂.heap.objs.size ≤ C) (hI : h₀.get? I = none) (hn : s₃.heap.Ns C m₃) (hk : ∀ b o, b ∉ [I] → s₂.heap.get? b = some o → s₃.heap.get? b = some o) : Fr h₀ C s₃.heap m₃ :=
  ⟨hn, fun b o e => hk b o (fun q => by rw [List.mem_singleton.mp q, hI] at e; cases e) (F.keep b o e), Nat.le_trans F.above (Nat.le_trans (Nat.le_of_lt F.ns.lt) hC)⟩
theorem news_comp {s₂ s₃ : Shared} {C I : Addr} (N : News h₀ L s₂.heap news) (hC : s₂.heap.objs.size ≤ C) (hI : ∀ p ∈ news, p.1 ≠ I) (hk : ∀ b o, b ∉ [I] → s₂.heap.get? b = some o → s₃.heap.get? b = some o) : News h₀ C s₃.heap news :=
  fun p hp => ⟨hk _ _ (fun q => hI p hp (List.mem_singleton.mp q)) (N p hp).1, Nat.ne_of_lt (Nat.lt_of_lt_of_le (Heap.lt_size (N p hp).1) hC), (N p hp).2.2⟩
theorem quiet_of {s s₂ : Shared} {scope : Scope} {cl : List (Str × Addr)} {x : Str} {elt : Expr} {P : Nat → Value → Prop} {G : Value → Value → Prop} {I : Addr} (F : Fr h₀ L s₂.heap m) (N : News h₀ L s₂.heap news)
    (hI : h₀.get? I = none) (hIN : ∀ p ∈ news, p.1 ≠ I) (hs : ∀ b o, s.heap.get? b = some o → s₂.heap.get? b = some o) (hIs : s.heap.get? I = none)
    (K : EltOk prog w A h₀ news env scope cl x elt P G s) : QuietOnC prog w A env scope cl x [] elt [I] P (fun _ => true) G s₂ where
  tests := fun C i v s₃ m₃ E' hC hP hn hm hk htk => by
    show wpAny _ _ (pure true) _ _ _
    exact wpAny_pure ⟨rfl, s₃.heap, s₃.toks, rfl, fun _ _ e => e⟩
  elt := fun C i v s₃ m₃ E' hC hP _ hn hm hk htk => by
    refine wpAny_mono (K C i v s₃.heap s₃.gens s₃.drawn s₃.toks s₃.os m₃ hP (fr_comp F hC hI hn hk) (news_comp N hC hIN hk) hm (fun b o e => hk b o (fun q => by rw [List.mem_singleton.mp q, hIs] at e; cases e) (hs b o e))) (fun y s₄ q => q) fun _ _ f => f.elim
theorem fresh_in (F : Fr h₀ L s.heap m) {D : Addr} (hD : s.heap.get? D = none) : D ≠ L ∧ h₀.get? D = none := by
  constructor
  · intro q
    obtain ⟨oL, _, _, hL, _⟩ := F.ns
    rw [← q, hD] at hL; cases hL
  · cases q : h₀.get? D with
    | none => rfl
    | some o => rw [F.keep D o q] at hD; cases hD
theorem unfresh {h h₂ : Heap} (hs : ∀ b o, h.get? b = some o → h₂.get? b = some o) {D : Addr} (hD : h₂.get? D = none) : h.get? D = none := by
  cases q : h.get? D with
  | none => rfl
  | some o => rw [hs _ _ q] at hD; cases hD

theorem comp_gen {h₂ : Heap} {tk₂ : Nat} {scope : Scope} {cl : List (Str × Addr)} {x : Str} {elt : Expr} {I : Addr} {fp : List Addr} {n : Nat} {P : Nat → Value → Prop} {St : Nat → Heap → Prop} {G : Value → Value → Prop} {Q : Value → Shared → Prop}
    (W : Walks prog w A I fp [I] n P St) (hs : ∀ b o, s.heap.get? b = some o → h₂.get? b = some o) (hI : s.heap.get? I = none) (hn : n ≤ 1000) (hst : St 0 h₂) (hfp : ∀ b ∈ fp, b < h₂.objs.size) (F : Fr h₀ L s.heap m) (N : News h₀ L s.heap news)
    (K : EltOk prog w A h₀ news env scope cl x elt P G s)
    (k : ∀ D h' tk ys c (vs : List Value), Fr h₀ L h' m → News h₀ L h' ((D, listOf ys c) :: news) → (∀ p ∈ news, p.1 ≠ D) → vs.length = n → (∀ j v, vs[j]? = some v → P j v) → Paired G vs ys.toList → (∀ b o, s.heap.get? b = some o → h'.get? b = some o) → Q (.ref D) { s with heap := h', toks := tk }) :
    ∃ I' fp wr n P St, (Value.ref I) = .ref I' ∧ Walks prog w A I' fp wr n P St ∧ n ≤ sizeLine ∧ St 0 h₂ ∧ (∀ b ∈ fp, b < h₂.objs.size) ∧
      QuietOnC prog w A env scope cl x [] elt wr P (fun _ => true) G { s with heap := h₂, toks := tk₂ } ∧
      (∀ D h' tk ys (vs : List Value), h₂.get? D = none → h'.IsList D ys → h'.PlainList D ys → vs.length = n → (∀ j v, vs[j]? = some v → P j v) → Paired G (vs.filter (fun _ => true)) ys.toList →
        (∀ b o, b ∉ wr → h₂.get? b = some o → h'.get? b = some o) → Q (.ref D) { s with heap := h', toks := tk }) := by
  refine ⟨I, fp, [I], n, P, St, rfl, W, by rw [PySem.sizeLine_eq]; lia, hst, hfp, quiet_of (L := L) (m := m) (news := news) (s := s) (F.keeps hs) (N.grown hs) (fresh_in F hI).2 (fun p hp q => by rw [← q, (N p hp).1] at hI; cases hI) hs hI K, ?_⟩
  intro D h' tk ys vs hD hl' hpl hlen' hP hF hk
  have hD0 := unfresh hs hD
  have hk' : ∀ b o, s.heap.get? b = some o → h'.get? b = some o := fun b o e => hk b o (fun q => by rw [List.mem_singleton.mp q, hI] at e; cases e) (hs b o e)
  obtain ⟨c, hpl⟩ := hpl
  obtain ⟨hDL, hDh⟩ := fresh_in F hD0
  rw [List.filter_eq_self.mpr (fun _ _ => rfl)] at hF
  refine k D h' tk ys c vs (F.keeps hk') (fun p hp => ?_) (fun p hp q => ?_) hlen' hP hF hk'
  · rcases List.mem_cons.mp hp with rfl | hp
    · exact ⟨hpl, hDL, hDh⟩
    · exact ⟨hk' _ _ (N p hp).1, (N p hp).2⟩
  · rw [← q, (N p hp).1] at hD0; cases hD0

theorem comp_genA {h₂ : Heap} {tk₂ : Nat} {scope : Scope} {cl : List (Str × Addr)} {x y : Str} {elt : Expr} {I : Addr} {fp : List Addr} {n : Nat} {P : Nat → Value → Prop} {St : Nat → Heap → Prop} {G : Value → Value → Prop} {Q : Flow → Shared → Prop}
    (W : Walks prog w A I fp [I] n P St) (hs : ∀ b o, s.heap.get? b = some o → h₂.get? b = some o) (hI : s.heap.get? I = none) (hn : n ≤ 1000) (hst : St 0 h₂) (hfp : ∀ b ∈ fp, b < h₂.objs.size) (F : Fr h₀ env.locals s.heap m) (N : News h₀ env.locals s.heap news)
    (K : EltOk prog w A h₀ news env scope cl x elt P G s)
    (k : ∀ D h' tk ys c (vs : List Value), Fr h₀ env.locals h' (fun z => if z = y then some (.ref D) else m z) → News h₀ env.locals h' ((D, listOf ys c) :: news) → (∀ p ∈ news, p.1 ≠ D) → vs.length = n → (∀ j v, vs[j]? = some v → P j v) → Paired G vs ys.toList → Q .next { s with heap := h', toks := tk }) :
    ∃ I' fp wr n P St m, (Value.ref I) = .ref I' ∧ Walks prog w A I' fp wr n P St ∧ n ≤ sizeLine ∧ St 0 h₂ ∧ (∀ b ∈ fp, b < h₂.objs.size) ∧ env.locals ∉ wr ∧ h₂.Ns env.locals m ∧
      QuietOnC prog w A env scope cl x [] elt wr P (fun _ => true) G { s with heap := h₂, toks := tk₂ } ∧
      (∀ D h' tk ys (vs : List Value), h₂.get? D = none → h'.IsList D ys → h'.PlainList D ys → vs.length = n → (∀ j v, vs[j]? = some v → P j v) → Paired G (vs.filter (fun _ => true)) ys.toList →
        h'.Ns env.locals (fun z => if z = y then some (.ref D) else m z) → (∀ b o, b ≠ env.locals → b ∉ wr → h₂.get? b = some o → h'.get? b = some o) → Q .next { s with heap := h', toks := tk }) := by
  have hLI : env.locals ∉ [I] := fun q => by
    obtain ⟨oL, _, _, hL, _⟩ := F.ns
    rw [List.mem_singleton.mp q, hI] at hL; cases hL
  refine ⟨I, fp, [I], n, P, St, m, rfl, W, by rw [PySem.sizeLine_eq]; lia, hst, hfp, hLI, F.ns.keeps hs, quiet_of (L := env.locals) (m := m) (news := news) (s := s) (F.keeps hs) (N.grown hs) (fresh_in F hI).2 (fun p hp q => by rw [← q, (N p hp).1] at hI; cases hI) hs hI K, ?_⟩
  intro D h' tk ys vs hD hl' hpl hlen' hP hF hns hk
  have hD0 := unfresh hs hD
  have hk' : ∀ b o, b ≠ env.locals → s.heap.get? b = some o → h'.get? b = some o := fun b o hb e => hk b o hb (fun q => by rw [List.mem_singleton.mp q, hI] at e; cases e) (hs b o e)
  obtain ⟨c, hpl⟩ := hpl
  obtain ⟨hDL, hDh⟩ := fresh_in F hD0
  rw [List.filter_eq_self.mpr (fun _ _ => rfl)] at hF
  refine k D h' tk ys c vs ⟨hns, fun b o e => hk' b o (fun q => ?_) (F.keep b o e), F.above⟩ (fun p hp => ?_) (fun p hp q => ?_) hlen' hP hF
  · rw [q] at e
    exact Nat.lt_irrefl _ (Nat.lt_of_lt_of_le (Heap.lt_size e) F.above)
  · rcases List.mem_cons.mp hp with rfl | hp
    · exact ⟨hpl, hDL, hDh⟩
    · exact ⟨hk' _ _ (N p hp).2.1 (N p hp).1, (N p hp).2⟩
  · rw [← q, (N p hp).1] at hD0; cases hD0

theorem walks_list {l : Addr} {vs : List Value} (hh : A.handled = none) (hl : s.heap.IsList l vs.toArray) :
    Walks prog w A s.heap.objs.size [s.heap.objs.size, l] [s.heap.objs.size] vs.length (fun i v => vs[i]? = some v) (fun i h => h.IsListIter s.heap.objs.size l i ∧ h.IsList l vs.toArray) := by
  obtain ⟨ol, hol, _⟩ := id hl
  have W := Walks.list (prog := prog) (w := w) hh s.heap.objs.size l (Nat.ne_of_lt (Heap.lt_size hol)) vs.toArray
  have hsz : vs.toArray.size = vs.length := by simp
  rw [hsz] at W
  simpa using W
theorem vs_eq {vs vs' : List Value} (hlen : vs'.length = vs.length) (hP : ∀ (j : Nat) (v : Value), vs'[j]? = some v → vs[j]? = some v) : vs' = vs := by
  apply List.ext_getElem?
  intro j
  cases q : vs'[j]? with
  | some v => exact (hP j v q).symm
  | none =>
    have h1 := List.getElem?_eq_none_iff.mp q
    exact (List.getElem?_eq_none (by lia)).symm

def LcAt (prog : Program) (w : World) (A : Around) (env : Env) (scope : Scope) (cl : List (Str × Addr)) (x : Str) (elt : Expr) (G : Value → Value → Prop) (Q : Value → Shared → Prop) (it : Value) (s₂ : Shared) : Prop :=
  ∃ I fp wr n P St, it = .ref I ∧ Walks prog w A I fp wr n P St ∧ n ≤ sizeLine ∧ St 0 s₂.heap ∧ (∀ b ∈ fp, b < s₂.heap.objs.size) ∧
      QuietOnC prog w A env scope cl x [] elt wr P (fun _ => true) G s₂ ∧
      (∀ D h' tk ys (vs : List Value), s₂.heap.get? D = none → h'.IsList D ys → h'.PlainList D ys → vs.length = n → (∀ j v, vs[j]? = some v → P j v) → Paired G (vs.filter (fun _ => true)) ys.toList →
        (∀ b o, b ∉ wr → s₂.heap.get? b = some o → h'.get? b = some o) → Q (.ref D) { s₂ with heap := h', toks := tk })
def LcAtA (prog : Program) (w : World) (A : Around) (env : Env) (scope : Scope) (cl : List (Str × Addr)) (x y : Str) (elt : Expr) (G : Value → Value → Prop) (Q : Flow → Shared → Prop) (it : Value) (s₂ : Shared) : Prop :=
  ∃ I fp wr n P St m, it = .ref I ∧ Walks prog w A I fp wr n P St ∧ n ≤ sizeLine ∧ St 0 s₂.heap ∧ (∀ b ∈ fp, b < s₂.heap.objs.size) ∧ env.locals ∉ wr ∧ s₂.heap.Ns env.locals m ∧
      QuietOnC prog w A env scope cl x [] elt wr P (fun _ => true) G s₂ ∧
      (∀ D h' tk ys (vs : List Value), s₂.heap.get? D = none → h'.IsList D ys → h'.PlainList D ys → vs.length = n → (∀ j v, vs[j]? = some v → P j v) → Paired G (vs.filter (fun _ => true)) ys.toList →
        h'.Ns env.locals (fun z => if z = y then some (.ref D) else m z) → (∀ b o, b ≠ env.locals → b ∉ wr → s₂.heap.get? b = some o → h'.get? b = some o) → Q .next { s₂ with heap := h', toks := tk })
theorem comp_list {scope : Scope} {cl : List (Str × Addr)} {x : Str} {elt : Expr} {l : Addr} {vs : List Value} {G : Value → Value → Prop} {Q : Value → Shared → Prop}
    (hh : A.handled = none) (hl : s.heap.IsList l vs.toArray) (hlen : vs.length < 1000) (F : Fr h₀ L s.heap m) (N : News h₀ L s.heap news)
    (K : EltOk prog w A h₀ news env scope cl x elt (fun i v => vs[i]? = some v) G s)
    (k : ∀ D h' tk (ys : List Value) c, Fr h₀ L h' m → News h₀ L h' ((D, listOf ys.toArray c) :: news) → (∀ p ∈ news, p.1 ≠ D) → Paired G vs ys → (∀ b o, s.heap.get? b = some o → h'.get? b = some o) → Q (.ref D) { s with heap := h', toks := tk }) :
    wpAny (model prog w) A (pyIter (.ref l)) (fun it s₂ => LcAt prog w A env scope cl x elt G Q it s₂) E s := by
  obtain ⟨ol, hol, _⟩ := id hl
  refine wpAny_pyIter_list hl ?_
  refine comp_gen (s := s) (tk₂ := s.toks) (walks_list hh hl) (fun b o e => Heap.get?_push_of_some _ e) (Heap.get?_none_of_le (Nat.le_refl _)) (by lia) ⟨⟨_, Heap.get?_push_size _ rfl, rfl, rfl⟩, hl.at fun o e => Heap.get?_push_of_some _ e⟩ (fun b hb => ?_) F N K ?_
  · rw [Heap.size_push]
    rcases List.mem_cons.mp hb with rfl | hb
    · exact Nat.lt_succ_self _
    · rw [List.mem_singleton.mp hb]; exact Nat.lt_succ_of_lt (Heap.lt_size hol)
  · intro D h' tk ys c vs' F' N' hne hlen' hP hF hk
    have e := vs_eq hlen' hP
    subst e
    obtain ⟨yl⟩ := ys
    exact k D h' tk yl c F' N' hne hF hk
theorem comp_listA {scope : Scope} {cl : List (Str × Addr)} {x y : Str} {elt : Expr} {l : Addr} {vs : List Value} {G : Value → Value → Prop} {Q : Flow → Shared → Prop}
    (hh : A.handled = none) (hl : s.heap.IsList l vs.toArray) (hlen : vs.length < 1000) (F : Fr h₀ env.locals s.heap m) (N : News h₀ env.locals s.heap news)
    (K : EltOk prog w A h₀ news env scope cl x elt (fun i v => vs[i]? = some v) G s)
    (k : ∀ D h' tk (ys : List Value) c, Fr h₀ env.locals h' (fun z => if z = y then some (.ref D) else m z) → News h₀ env.locals h' ((D, listOf ys.toArray c) :: news) → (∀ p ∈ news, p.1 ≠ D) → Paired G vs ys → Q .next { s with heap := h', toks := tk }) :
    wpAny (model prog w) A (pyIter (.ref l)) (fun it s₂ => LcAtA prog w A env scope cl x y elt G Q it s₂) E s := by
  obtain ⟨ol, hol, _⟩ := id hl
  refine wpAny_pyIter_list hl ?_
  refine comp_genA (s := s) (tk₂ := s.toks) (walks_list hh hl) (fun b o e => Heap.get?_push_of_some _ e) (Heap.get?_none_of_le (Nat.le_refl _)) (by lia) ⟨⟨_, Heap.get?_push_size _ rfl, rfl, rfl⟩, hl.at fun o e => Heap.get?_push_of_some _ e⟩ (fun b hb => ?_) F N K ?_
  · rw [Heap.size_push]
    rcases List.mem_cons.mp hb with rfl | hb
    · exact Nat.lt_succ_self _
    · rw [List.mem_singleton.mp hb]; exact Nat.lt_succ_of_lt (Heap.lt_size hol)
  · intro D h' tk ys c vs' F' N' hne hlen' hP hF
    have e := vs_eq hlen' hP
    subst e
    obtain ⟨yl⟩ := ys
    exact k D h' tk yl c F' N' hne hF
end
theorem Calls.use2 {w : World} {n : Nat} {f : Value} {args : List Value} {P : Value → Heap → Prop} {A : Around} {s : Shared} {Q E : Value → Shared → Prop} {g : Heap} {L : Addr} {m : Str → Option Value} {news : List (Addr × Obj)}
    (C : Calls w n f args s.heap P) (F : Fr g L s.heap m) (N : News g L s.heap news)
    (k : ∀ v h' tk', P v h' → Fr g L h' m → News g L h' news → (∀ b o, s.heap.get? b = some o → h'.get? b = some o) → Q v { s with heap := h', toks := tk' })
    (hh : autoParam (A.handled = none) auR) (hd : autoParam (A.depth ≤ n) auL) (hu : autoParam (A.units ≤ 8 * n) auL) :
    wpAny (model Challenge.rw_np0089_01.row.prog w) A (call f args) Q E s :=
  C A s Q E hh hd hu rfl fun v h' tk' st p => k v h' tk' p (F.keeps st) (N.grown st) st
def CompWith (_x : Str) (_G : Value → Value → Prop) : Prop := True
section
variable {prog : Program} {w : World} {A : Around} {E : Value → Shared → Prop} {s : Shared} {env : Env}
theorem lc_eval {elt iter : Expr} {x : Str} {px : Pos} {scope : Scope} {cl : List (Str × Addr)} {pos : Pos} {Q : Value → Shared → Prop} {G : Value → Value → Prop} (_ : CompWith x G)
    (hclos : closureFor scope env = pure cl) (hcell : ∀ y ∈ scope.names, y.2 ≠ .cell) (hkind : scope.kind = .function)
    (hnames : ∀ y ∈ scope.names, y.2 = .local → scope.names.lookup y.1 = some .local) (hx : scope.names.lookup x = some .local)
    (h : wpAny (model prog w) A (eval iter env) (fun xv s₁ => wpAny (model prog w) A (pyIter xv) (fun it s₂ => LcAt prog w A env scope cl x elt G Q it s₂) E s₁) E s)
    (hs : autoParam (∀ x, foldedSetIterable iter env x = pure x) auJ) :
    wpAny (model prog w) A (eval (.ListComp elt [⟨.Name x px, iter, [], 0⟩] scope pos) env) Q E s := wpAny_ListComp_free (fun _ => true) G hclos hcell hkind hnames hx h hs
theorem lc_assign {elt iter : Expr} {x y : Str} {px py : Pos} {scope : Scope} {cl : List (Str × Addr)} {pos spos : Pos} {Q : Flow → Shared → Prop} {G : Value → Value → Prop} (_ : CompWith x G)
    (hsw : swapsWith (.ListComp elt [⟨.Name x px, iter, [], 0⟩] scope pos) (some (.Name y py)) spos.line env = pure true)
    (hclos : closureFor scope env = pure cl) (hcell : ∀ z ∈ scope.names, z.2 ≠ .cell) (hkind : scope.kind = .function)
    (hnames : ∀ z ∈ scope.names, z.2 = .local → scope.names.lookup z.1 = some .local) (hx : scope.names.lookup x = some .local)
    (hy : env.kindOf y = some .local) (hp : (env.scope.kind == .class || (env.scope.kind == .module && env.locals != env.globals)) = false)
    (h : wpAny (model prog w) A (eval iter env) (fun xv s₁ => wpAny (model prog w) A (pyIter xv) (fun it s₂ => LcAtA prog w A env scope cl x y elt G Q it s₂) E s₁) E s)
    (hs : autoParam (∀ x, foldedSetIterable iter env x = pure x) auJ) :
    wpAny (model prog w) A (exec (.Assign [.Name y py] (.ListComp elt [⟨.Name x px, iter, [], 0⟩] scope pos) spos) env) Q E s :=
  wpAny_Assign_ListComp_free (fun _ => true) G hsw hclos hcell hkind hnames hx hy hp h hs
end
theorem paired_ints {vs : List Value} {ns : List Int} {ys : List Value} (hlen : vs.length = ns.length) (f : Int → Int) {G : Value → Value → Prop} (hp : Paired G vs ys)
    (hG : ∀ (i : Nat) (v : Value) (n : Int) (y : Value), vs[i]? = some v → ns[i]? = some n → G v y → ∃ t, y = .int (f n) t) : IntsAre ys (ns.map f) := by
  induction hp generalizing ns with
  | nil =>
    cases ns with
    | nil => exact .nil
    | cons => cases hlen
  | cons h _ ih =>
    cases ns with
    | nil => cases hlen
    | cons n r =>
      obtain ⟨t, rfl⟩ := hG 0 _ n _ rfl rfl h
      exact .cons _ _ (ih (by simpa using hlen) fun i v n y a b g => hG (i + 1) v n y (by simpa using a) (by simpa using b) g)
theorem NumAt.uniq {h : Heap} {v : Value} {n m : Int} (a : NumAt h v n) (b : NumAt h v m) : n = m := by
  cases a with
  | int n t => cases b; rfl
  | mark h1 h2 h3 h4 =>
    cases b with
    | mark k1 k2 k3 k4 =>
      rw [h1] at k1; cases k1
      rw [h2] at k2
      injection k2 with k2
      injection k2 with _ _ k2
      injection k2 with k2 _
      have e := congrArg Array.toList k2
      simp only [List.toList_toArray] at e
      subst e
      rw [h4] at k4; cases k4; rfl
theorem NumsAt.of {h : Heap} {vs : List Value} {ns : List Int} (x : NumsAt h vs ns) {i : Nat} {v : Value} (hv : vs[i]? = some v) : ∃ n, ns[i]? = some n ∧ NumAt h v n := by
  have hi : i < ns.length := by rw [← x.1]; exact (List.getElem?_eq_some_iff.mp hv).1
  exact ⟨ns[i], by simp [hi], x.2 i v _ hv (by simp [hi])⟩
def NumG (h : Heap) (v y : Value) : Prop := ∀ n, NumAt h v n → ∃ t, y = .int n t
theorem NumG.of {h : Heap} {v : Value} {n : Int} {t : Tok} (V : NumAt h v n) : NumG h v (.int n t) := fun _ V' => by rw [V'.uniq V]; exact ⟨t, rfl⟩
theorem nums_made {h : Heap} {vs : List Value} {ns : List Int} {ys : List Value} (V : NumsAt h vs ns) (hp : Paired (NumG h) vs ys) : IntsAre ys ns := by
  have := paired_ints V.1 (fun n => n) hp fun i v n y a b g => g n (V.2 i v n a b)
  simpa using this
section
variable {M : Model} {A : Around} {E : Value → Shared → Prop} {s : Shared} {h₀ : Heap} {m : Str → Option Value} {env : Env}
theorem ldC {x : Str} {pos : Pos} {v : Value} {Q : Value → Shared → Prop} (F : Fr h₀ env.locals s.heap m) (hv : m x = some v) (h : Q v s) (hk : env.scope.kind = .function) (hl : env.kindOf x = some .local)
    (hd : (x == ("__debug__" : Str)) = false) : wpAny M A (eval (.Name x pos) env) Q E s := wpAny_Name (wpAny_loadName_local hk hl F.ns hv h) hd
end

end Mine.Internal
namespace Mine.Internal
section
variable {prog : Program} {w : World} {A : Around} {E : Value → Shared → Prop} {s : Shared} {h₀ : Heap} {L : Addr} {m : Str → Option Value}
theorem zip_L {l1 l2 : Addr} {vs₁ vs₂ : List Value} {as bs : List Int} {Q : Value → Shared → Prop} (hh : A.handled = none)
    (hls1 : s.heap.IsList l1 vs₁.toArray) (hls2 : s.heap.IsList l2 vs₂.toArray) (hi1 : IntsAre vs₁ as) (hi2 : IntsAre vs₂ bs) (n1 : l1 ≠ L) (n2 : l2 ≠ L) (F : Fr h₀ L s.heap m)
    (h : ∀ h' e, Fr h₀ L h' m → News h₀ L h' [] → PairSrc2L prog w A E h₀ L ItemKind.int ItemKind.int as bs (.ref e) { s with heap := h' } m [] → Q (.ref e) { s with heap := h' }) :
    wpAny (model prog w) A (call (.type "zip") [.ref l1, .ref l2]) Q E s := by
  obtain ⟨ol1, hol1, _⟩ := id hls1
  obtain ⟨ol2, hol2, _⟩ := id hls2
  have a1 : l1 < s.heap.objs.size := Heap.lt_size hol1
  have a2 : l2 < s.heap.objs.size := Heap.lt_size hol2
  have hLs : L < s.heap.objs.size := F.ns.lt
  refine call_zip_2 hls1 hls2 fun h' hz hTI hTO hit1 hit2 hsz hk => ?_
  have F' : Fr h₀ L h' m := ⟨F.ns.keeps hk, fun b o e => hk b o (F.keep b o e), F.above⟩
  have fresh : ∀ b, s.heap.objs.size ≤ b → h₀.get? b = none := fun b hb => by
    cases q : h₀.get? b with
    | none => rfl
    | some o => exact absurd (Nat.lt_of_lt_of_le (Heap.lt_size (F.keep b o q)) hb) (Nat.lt_irrefl _)
  refine h h' _ F' (fun _ q => nomatch q) fun env hL => ?_
  subst hL
  refine zipSrc hh (zipApart_new a1 a2) ⟨hz, hTI, ⟨_, _, hTO⟩, hit1, hit2, hls1.at fun o e => hk l1 o e, hls2.at fun o e => hk l2 o e⟩ hi1.areOf hi2.areOf ?_ ?_ ?_ ?_ F' (fun _ q => nomatch q)
  · intro hm
    simp only [List.mem_cons, List.not_mem_nil, or_false] at hm
    have up : ∀ k, env.locals ≠ s.heap.objs.size + k := fun k e => Nat.ne_of_lt (Nat.lt_of_lt_of_le hLs (Nat.le_add_right _ k)) e
    rcases hm with e | e | e | e | e | e | e
    · exact up 4 e
    · exact up 2 e
    · exact up 3 e
    · exact up 0 e
    · exact up 1 e
    · exact n1 e.symm
    · exact n2 e.symm
  · intro b hb
    simp only [List.mem_cons, List.not_mem_nil, or_false] at hb
    rcases hb with e | e | e | e <;> (subst e; exact fresh _ (by lia))
  · intro p hp; cases hp
  · intro b _ q hq; cases hq
end

end Mine.Internal
set_option pp.deepTerms false
set_option hygiene false
local macro_rules | `(tactic| walk_at $s:str) => `(tactic| k_extra $s)
local macro_rules | `(tactic| k_get) => `(tactic| k_extra "k_get")
local macro_rules | `(tactic| k_in) => `(tactic| k_extra "k_in")
local macro_rules | `(tactic| k_inst) => `(tactic| k_extra "k_inst")
local macro_rules | `(tactic| k_ne) => `(tactic| k_extra "k_ne")
local macro_rules | `(tactic| passes_own) => `(tactic| k_extra "passes_own")
local macro_rules | `(tactic| wrow_close) => `(tactic| k_extra "wrow_close")
local macro_rules | `(tactic| k_enter) => `(tactic| k_extra "k_enter")
local macro_rules | `(tactic| k_steps) => `(tactic| k_extra "k_steps")
local macro_rules | `(tactic| k_lt $h:ident) => `(tactic| k_extra "k_lt")
local macro_rules | `(tactic| k_upd) => `(tactic| k_extra "k_upd")
local macro_rules | `(tactic| k_updF) => `(tactic| k_extra "k_updF")
namespace Mine.Internal
theorem filled (w : World) (h : Heap) : (Mine.hd.heap_39 w.params).In h → PySem.Challenge.rw_np0089_01 = PySem.Challenge.rw_np0089_01 → True := by
  k_fill
  intros
  trivial
theorem lines_set : True := by
  k_with_none
  k_with "FN" => ((with_reducible rename Fr _ _ _ _ => lF'); (with_reducible rename News _ _ _ _ => lN'))
  k_with "k_steps" => (repeat' (first | (k_unfold; (try dsimp only)) | (k_end; k_extra "m_leaf") | (k_extra "d_desc") | (k_end; kc_close) | walk1 | (dsimp only; walk1) | (leave1; walk_say "STEP leave1"; (try dsimp only)) | fail "no step"))
  k_with "compareOp NotEq bool bool" => (with_reducible refine ne_bool ?_)
  k_with "subscriptTail Name Constant ref int" => (k_here; (with_reducible show wpAny _ _ (subscriptTail _ _ (Value.ref _) (Value.int _ _)) _ _ _); refine item_list (by exact fr_list (by assumption) (by with_reducible assumption)) (by decide) (by decide) (by k_dflt exact rfl) ?_)
  k_with "e_1" => k_dflt (first | (k_extra "m_on"; refine epsT8 ?_; generalize pj1 _ = zi; generalize pj2 _ = zv; generalize pj3 _ = zn; generalize pj4 _ = za; generalize pj5 _ = zta; generalize pj6 _ = zh; generalize pj7 _ = ztk; generalize pl8 _ = zown; intro zhv zhn zha zF' zN') | intro zi zv zn za zta zh ztk zown zhv zhn zha zF' zN')
  k_with "e_2" => k_dflt (first | (k_extra "m_on"; refine epsT4 ?_; generalize pj1 _ = zu; generalize pj2 _ = zt; generalize pj3 _ = zh; generalize pl4 _ = ztk; intro zF' zN') | intro zu zt zh ztk zF' zN')
  k_with "e_3" => k_dflt (first | (k_extra "m_on"; refine epsT8 ?_; generalize pj1 _ = zi; generalize pj2 _ = zv; generalize pj3 _ = zn; generalize pj4 _ = za; generalize pj5 _ = zta; generalize pj6 _ = zh; generalize pj7 _ = ztk; generalize pl8 _ = zown; intro zbad zhv zhn zha zF' zN') | intro zi zv zn za zta zh ztk zown zbad zhv zhn zha zF' zN')
  k_with "e_4" => k_dflt (first | (k_extra "m_on"; refine epsT9 (ne := ⟨(cN, cN, cN, cN, cN, Mine.Internal.zd, cN, cN, cN)⟩) ?_; generalize pj1 _ = zC; generalize pj2 _ = zi; generalize pj3 _ = zv; generalize pj4 _ = zh; generalize pj5 _ = zg; generalize pj6 _ = zd; generalize pj7 _ = ztk; generalize pj8 _ = zos; generalize pl9 _ = zm3; intro zP zF' zN' zhm zhk) | intro zC zi zv zh zg zd ztk zos zm3 zP zF' zN' zhm zhk)
  k_with "e_5" => k_dflt (first | (k_extra "m_on"; refine epsT5 ?_; generalize pj1 _ = zD; generalize pj2 _ = zh'; generalize pj3 _ = ztk; generalize pj4 _ = zys; generalize pl5 _ = zc; intro zF' zN' zne zpr zst) | intro zD zh' ztk zys zc zF' zN' zne zpr zst)
  k_with "e_6" => k_dflt (first | (k_extra "m_on"; refine epsT5 ?_; generalize pj1 _ = zD; generalize pj2 _ = zh'; generalize pj3 _ = ztk; generalize pj4 _ = zys; generalize pl5 _ = zc; intro zF' zN' zne zpr) | intro zD zh' ztk zys zc zF' zN' zne zpr)
  k_with "e_7" => k_dflt (first | (k_extra "m_on"; refine epsT5 ?_; generalize pj1 _ = zC; generalize pj2 _ = zv; generalize pj3 _ = zh; generalize pj4 _ = ztk; generalize pl5 _ = zm3; intro zhv zF' zN' zhm zhk zcn) | intro zC zv zh ztk zm3 zhv zF' zN' zhm zhk zcn)
  k_with "e_8" => k_dflt (first | (k_extra "m_on"; refine epsT10 (ne := ⟨(cN, cN, cN, cN, cN, cN, Mine.Internal.zd, cN, cN, cN)⟩) ?_; generalize pj1 _ = zC; generalize pj2 _ = zi; generalize pj3 _ = zv; generalize pj4 _ = zv2; generalize pj5 _ = zh; generalize pj6 _ = zg; generalize pj7 _ = zd; generalize pj8 _ = ztk; generalize pj9 _ = zos; generalize pl10 _ = zm3; intro zP zF' zN' zhm zhm2 zhk) | intro zC zi zv zv2 zh zg zd ztk zos zm3 zP zF' zN' zhm zhm2 zhk)
  k_with "e_9" => k_dflt (first | (k_extra "m_on"; refine epsT5 ?_; generalize pj1 _ = zD; generalize pj2 _ = zh'; generalize pj3 _ = ztk; generalize pj4 _ = zys; generalize pl5 _ = zc; intro zF' zN' zne zmd zst) | intro zD zh' ztk zys zc zF' zN' zne zmd zst)
  k_with "e_10" => k_dflt (first | (k_extra "m_on"; refine epsT2 ?_; generalize pj1 _ = zh; generalize pl2 _ = ztk; intro zF' zN') | intro zh ztk zF' zN')
  k_with "e_11" => k_dflt (first | (k_extra "m_on"; refine epsT6 ?_; generalize pj1 _ = zi; generalize pj2 _ = zv; generalize pj3 _ = zta; generalize pj4 _ = zh; generalize pj5 _ = ztk; generalize pl6 _ = zown; intro zin zP zF' zN') | intro zi zv zta zh ztk zown zin zP zF' zN')
  k_with "e_12" => k_dflt (first | (k_extra "m_on"; refine epsT6 ?_; generalize pj1 _ = zD; generalize pj2 _ = zh'; generalize pj3 _ = ztk; generalize pj4 _ = zys; generalize pj5 _ = zc; generalize pl6 _ = zvs; intro zF' zN' zne zln zvp zpr zst) | intro zD zh' ztk zys zc zvs zF' zN' zne zln zvp zpr zst)
  k_with "e_13" => k_dflt (first | (k_extra "m_on"; refine epsT2 ?_; generalize pj1 _ = zh'; generalize pl2 _ = ze; intro zF' zN' zsrc) | intro zh' ze zF' zN' zsrc)
  k_with "e_14" => k_dflt (first | (k_extra "m_on"; refine epsT7 ?_; generalize pj1 _ = zn; generalize pj2 _ = za; generalize pj3 _ = zb; generalize pj4 _ = zta; generalize pj5 _ = ztb; generalize pj6 _ = zh; generalize pl7 _ = ztk; intro zR zF' zN') | intro zn za zb zta ztb zh ztk zR zF' zN')
  k_with "e_15" => k_dflt (first | (k_extra "m_on"; refine epsT9 ?_; generalize pj1 _ = zn; generalize pj2 _ = za; generalize pj3 _ = zb; generalize pj4 _ = zc; generalize pj5 _ = zta; generalize pj6 _ = ztb; generalize pj7 _ = ztc; generalize pj8 _ = zh; generalize pl9 _ = ztk; intro zR zF' zN') | intro zn za zb zc zta ztb ztc zh ztk zR zF' zN')
  k_with "e_16" => k_dflt (first | (k_extra "m_on"; refine epsT3 ?_; generalize pj1 _ = zjt; generalize pj2 _ = zh'; generalize pl3 _ = ztk'; intro zF' zN') | intro zjt zh' ztk' zF' zN')
  k_with "e_17" => k_dflt (first | (k_extra "m_on"; refine epsT3 ?_; generalize pj1 _ = zh'; generalize pj2 _ = ztk'; generalize pl3 _ = ze; intro zth zF' zN') | intro zh' ztk' ze zth zF' zN')
  k_with "e_18" => k_dflt (first | (k_extra "m_on"; refine epsT11 (ne := ⟨(cN, cN, cN, cN, cN, cN, cN, Mine.Internal.zd, cN, cN, cN)⟩) ?_; generalize pj1 _ = zC; generalize pj2 _ = zcx; generalize pj3 _ = zov; generalize pj4 _ = zi; generalize pj5 _ = zv; generalize pj6 _ = zh; generalize pj7 _ = zg; generalize pj8 _ = zd; generalize pj9 _ = ztk; generalize pj10 _ = zos; generalize pl11 _ = zm3; intro zP zF' zN' zov' zne zhk) | intro zC zcx zov zi zv zh zg zd ztk zos zm3 zP zF' zN' zov' zne zhk)
  k_with "e_19" => k_dflt (first | (k_extra "m_on"; refine epsT5 ?_; generalize pj1 _ = zD; generalize pj2 _ = zh'; generalize pj3 _ = ztk; generalize pj4 _ = zys; generalize pl5 _ = zc; intro zF' zN' zne zmd) | intro zD zh' ztk zys zc zF' zN' zne zmd)
  k_with "e_20" => k_dflt (first | (k_extra "m_on"; refine epsT9 (ne := ⟨(cN, cN, cN, cN, cN, Mine.Internal.zd, cN, cN, cN)⟩) ?_; generalize pj1 _ = zC; generalize pj2 _ = zi; generalize pj3 _ = zv; generalize pj4 _ = zh; generalize pj5 _ = zg; generalize pj6 _ = zd; generalize pj7 _ = ztk; generalize pj8 _ = zos; generalize pl9 _ = zm3; intro zro zP zF' zN' zhm zhk) | intro zC zi zv zh zg zd ztk zos zm3 zro zP zF' zN' zhm zhk)
  k_with "e_21" => k_dflt (first | (k_extra "m_on"; refine epsT13 ?_; generalize pj1 _ = zD; generalize pj2 _ = zh'; generalize pj3 _ = ztk; generalize pj4 _ = zys; generalize pj5 _ = zc; generalize pj6 _ = za0; generalize pj7 _ = zo0; generalize pj8 _ = za1; generalize pj9 _ = zo1; generalize pj10 _ = za2; generalize pj11 _ = zo2; generalize pj12 _ = za3; generalize pl13 _ = zo3; intro zF' zN' zne zn0 zn1 zn2 zn3 zrw) | intro zD zh' ztk zys zc za0 zo0 za1 zo1 za2 zo2 za3 zo3 zF' zN' zne zn0 zn1 zn2 zn3 zrw)
  k_with "e_22" => k_dflt (first | (k_extra "m_on"; refine epsT10 (ne := ⟨(cN, cN, cN, cN, cN, cN, Mine.Internal.zd, cN, cN, cN)⟩) ?_; generalize pj1 _ = zC; generalize pj2 _ = zi; generalize pj3 _ = zv; generalize pj4 _ = zv2; generalize pj5 _ = zh; generalize pj6 _ = zg; generalize pj7 _ = zd; generalize pj8 _ = ztk; generalize pj9 _ = zos; generalize pl10 _ = zm3; intro zin zP zF' zN' zhm zhm2 zhk) | intro zC zi zv zv2 zh zg zd ztk zos zm3 zin zP zF' zN' zhm zhm2 zhk)
  k_with "e_23" => k_dflt (first | (k_extra "m_on"; refine epsT5 ?_; generalize pj1 _ = zD; generalize pj2 _ = zh'; generalize pj3 _ = ztk; generalize pj4 _ = zys; generalize pl5 _ = zc; intro zF' zN' zne zI) | intro zD zh' ztk zys zc zF' zN' zne zI)
  k_with "e_24" => k_dflt (first | (k_extra "m_on"; refine epsT10 (ne := ⟨(cN, cN, cN, cN, cN, cN, Mine.Internal.zd, cN, cN, cN)⟩) ?_; generalize pj1 _ = zC; generalize pj2 _ = zi; generalize pj3 _ = zv; generalize pj4 _ = zv2; generalize pj5 _ = zh; generalize pj6 _ = zg; generalize pj7 _ = zd; generalize pj8 _ = ztk; generalize pj9 _ = zos; generalize pl10 _ = zm3; intro zro zP zF' zN' zhm zhm2 zhk) | intro zC zi zv zv2 zh zg zd ztk zos zm3 zro zP zF' zN' zhm zhm2 zhk)
  k_with "e_25" => k_dflt (first | (k_extra "m_on"; refine epsT1 ?_; generalize zT1 _ _ = zh'; intro zF' zN' zst) | intro zh' zF' zN' zst)
  k_with "e_26" => k_dflt (first | (k_extra "m_on"; refine epsT1 ?_; generalize zT1 _ _ = zh'; intro zF' zN') | intro zh' zF' zN')
  k_with "e_27" => k_dflt (first | (k_extra "m_on"; refine epsT3 ?_; generalize pj1 _ = zh'; generalize pj2 _ = ztk'; generalize pl3 _ = zt'; intro zF' zN' zst2) | intro zh' ztk' zt' zF' zN' zst2)
  k_with "e_28" => k_dflt (first | (k_extra "m_on"; refine epsT3 ?_; generalize pj1 _ = zc; generalize pj2 _ = zh; generalize pl3 _ = ztk; intro zF' zN') | intro zc zh ztk zF' zN')
  k_with "e_29" => k_dflt (first | (k_extra "m_on"; refine epsT7 ?_; generalize pj1 _ = za; generalize pj2 _ = zt; generalize pj3 _ = zvs; generalize pj4 _ = zds; generalize pj5 _ = zc; generalize pj6 _ = zh; generalize pl7 _ = ztk; intro zne za0 za1 zI zb zlen zF' zN') | intro za zt zvs zds zc zh ztk zne za0 za1 zI zb zlen zF' zN')
  k_with "e_30" => k_dflt (first | (k_extra "m_on"; refine epsT6 ?_; generalize pj1 _ = zt; generalize pj2 _ = zvs; generalize pj3 _ = zds; generalize pj4 _ = zc; generalize pj5 _ = zh; generalize pl6 _ = ztk; intro zI zlen zF' zN') | intro zt zvs zds zc zh ztk zI zlen zF' zN')
  k_with "e_31" => k_dflt (first | (k_extra "m_on"; refine epsT2 ?_; generalize pj1 _ = zh'; generalize pl2 _ = zo'; intro zF' zN' zR') | intro zh' zo' zF' zN' zR')
  k_with "e_32" => k_dflt (first | (k_extra "m_on"; refine epsT5 ?_; generalize pj1 _ = zD; generalize pj2 _ = zvs; generalize pj3 _ = zns; generalize pj4 _ = zc; generalize pl5 _ = zh'; intro zF' zN' zlt zI zel zpm zpw zb) | intro zD zvs zns zc zh' zF' zN' zlt zI zel zpm zpw zb)
  k_with "e_33" => k_dflt (first | (k_extra "m_on"; refine epsT4 ?_; generalize pj1 _ = zD; generalize pj2 _ = zh'; generalize pj3 _ = ztk; generalize pl4 _ = zc; intro zF' zN' zne) | intro zD zh' ztk zc zF' zN' zne)
  k_with "e_34" => k_dflt (first | (k_extra "m_on"; refine epsT1 ?_; generalize zT1 _ _ = zw; intro zwe) | intro zw zwe)
  k_with "e_35" => k_dflt (first | (k_extra "m_on"; refine epsT2 ?_; generalize pj1 _ = zh'; generalize pl2 _ = ztk'; intro zF' zN') | intro zh' ztk' zF' zN')
  k_with "e_36" => k_dflt (first | (k_extra "m_on"; refine epsT4 ?_; generalize pj1 _ = zh'; generalize pj2 _ = ztk'; generalize pj3 _ = zk9; generalize pl4 _ = zv9; intro zF' zN') | intro zh' ztk' zk9 zv9 zF' zN')
  k_with "e_37" => k_dflt (first | (k_extra "m_on"; refine epsT2 ?_; generalize pj1 _ = zl; generalize pl2 _ = zh'; intro zF' zN' l1) | intro zl zh' zF' zN' l1)
  k_with "e_38" => k_dflt (first | (k_extra "m_on"; refine epsT2 ?_; generalize pj1 _ = zh'; generalize pl2 _ = ztk'; intro zF' zN' zst) | intro zh' ztk' zF' zN' zst)
  k_with "e_39" => k_dflt (first | (k_extra "m_on"; refine epsT3 ?_; generalize pj1 _ = zt'; generalize pj2 _ = zh'; generalize pl3 _ = ztk'; intro zF' zN' zst) | intro zt' zh' ztk' zF' zN' zst)
  k_with "e_40" => k_dflt (first | (k_extra "m_on"; refine epsT5 ?_; generalize pj1 _ = za; generalize pj2 _ = zys; generalize pj3 _ = zc; generalize pj4 _ = zh'; generalize pl5 _ = ztk'; intro zI zF' zN' zne zst) | intro za zys zc zh' ztk' zI zF' zN' zne zst)
  k_with "e_41" => k_dflt (first | (k_extra "m_on"; refine epsT3 ?_; generalize pj1 _ = zv; generalize pj2 _ = zh'; generalize pl3 _ = ztk'; intro zp' zF' zN' zst) | intro zv zh' ztk' zp' zF' zN' zst)
  k_with "e_42" => k_dflt (first | (k_extra "m_on"; refine epsT5 ?_; generalize pj1 _ = za; generalize pj2 _ = zys; generalize pj3 _ = zc; generalize pj4 _ = zh'; generalize pl5 _ = ztk'; intro zI zF' zN' zfr zst) | intro za zys zc zh' ztk' zI zF' zN' zfr zst)
  k_with "e_43" => k_dflt (first | (k_extra "m_on"; refine epsT4 ?_; generalize pj1 _ = zv; generalize pj2 _ = zh'; generalize pj3 _ = ztk'; generalize pl4 _ = zo; intro zK zp' zF' zN' zst) | intro zv zh' ztk' zo zK zp' zF' zN' zst)
  k_with "e_44" => k_dflt (first | (k_extra "m_on"; refine epsT4 (ne := ⟨(cN, cN, Mine.Internal.zs, cN)⟩) ?_; generalize pj1 _ = zL'; generalize pj2 _ = zh'; generalize pj3 _ = zs; generalize pl4 _ = ztk; intro zF' zN') | intro zL' zh' zs ztk zF' zN')
  k_with "e_45" => k_dflt (first | (k_extra "m_on"; refine epsT6 (ne := ⟨(cN, cN, Mine.Internal.zs, cN, cN, cN)⟩) ?_; generalize pj1 _ = zL'; generalize pj2 _ = zh'; generalize pj3 _ = zs; generalize pj4 _ = ztk; generalize pj5 _ = zl; generalize pl6 _ = zB; intro zfl zF' zN') | intro zL' zh' zs ztk zl zB zfl zF' zN')
  k_with "e_46" => k_dflt (first | (k_extra "m_on"; refine epsT6 (ne := ⟨(cN, cN, cN, Mine.Internal.zs, cN, cN)⟩) ?_; generalize pj1 _ = zL'; generalize pj2 _ = zg; generalize pj3 _ = zh'; generalize pj4 _ = zs; generalize pj5 _ = ztk; generalize pl6 _ = zl; intro zG zS zF' zN') | intro zL' zg zh' zs ztk zl zG zS zF' zN')
  k_with "e_47" => k_dflt (first | (k_extra "m_on"; refine epsT5 (ne := ⟨(cN, cN, Mine.Internal.zs, cN, cN)⟩) ?_; generalize pj1 _ = zL'; generalize pj2 _ = zh'; generalize pj3 _ = zs; generalize pj4 _ = ztk; generalize pl5 _ = zcells; intro zF' zN' zY') | intro zL' zh' zs ztk zcells zF' zN' zY')
  k_with "e_48" => k_dflt (first | (k_extra "m_on"; refine epsT8 (ne := ⟨(cN, cN, cN, cN, Mine.Internal.zs, cN, cN, cN)⟩) ?_; generalize pj1 _ = zL'; generalize pj2 _ = zh0; generalize pj3 _ = zg; generalize pj4 _ = zh'; generalize pj5 _ = zs; generalize pj6 _ = ztk; generalize pj7 _ = zl; generalize pl8 _ = zcells; intro zG zS zC zF' zN' zY' zlt) | intro zL' zh0 zg zh' zs ztk zl zcells zG zS zC zF' zN' zY' zlt)
  k_with "e_49" => k_dflt (first | (k_extra "m_on"; refine epsT6 (ne := ⟨(cN, cN, cN, Mine.Internal.zs, cN, cN)⟩) ?_; generalize pj1 _ = zL'; generalize pj2 _ = zh0; generalize pj3 _ = zh'; generalize pj4 _ = zs; generalize pj5 _ = ztk; generalize pl6 _ = zo; intro zhB zS zK zF' zN') | intro zL' zh0 zh' zs ztk zo zhB zS zK zF' zN')
  k_with "e_50" => k_dflt (first | (k_extra "m_on"; refine epsT6 (ne := ⟨(cN, cN, cN, Mine.Internal.zs, cN, cN)⟩) ?_; generalize pj1 _ = zL'; generalize pj2 _ = zg; generalize pj3 _ = zh'; generalize pj4 _ = zs; generalize pj5 _ = ztk; generalize pl6 _ = zl; intro zS zBel zPre zF' zN') | intro zL' zg zh' zs ztk zl zS zBel zPre zF' zN')
  k_with "e_51" => k_dflt (first | (k_extra "m_on"; refine epsT3 ?_; generalize pj1 _ = zg9; generalize pj2 _ = zL9; generalize pl3 _ = zh9; intro zFG zF' zN' zB9 zX9 zT9) | intro zg9 zL9 zh9 zFG zF' zN' zB9 zX9 zT9)
  k_with "e_52" => k_dflt (first | (k_extra "m_on"; refine epsT3 ?_; generalize pj1 _ = zx9; generalize pj2 _ = zd9; generalize pl3 _ = zh'; intro zF' zN' l1 l2) | intro zx9 zd9 zh' zF' zN' l1 l2)
  k_with "e_53" => k_dflt (first | (k_extra "m_on"; refine epsT3 ?_; generalize pj1 _ = zD; generalize pj2 _ = zc8; generalize pl3 _ = zh'; intro zF' zN' l1) | intro zD zc8 zh' zF' zN' l1)
  k_with "e_54" => k_dflt (first | (k_extra "m_on"; refine epsT8 ?_; generalize pj1 _ = zf9; generalize pj2 _ = zc8; generalize pj3 _ = zo9; generalize pj4 _ = zv9; generalize pj5 _ = zt9; generalize pj6 _ = zw9; generalize pj7 _ = zh'; generalize pl8 _ = ztk'; intro zF' zN' d1 d2 l1 l2) | intro zf9 zc8 zo9 zv9 zt9 zw9 zh' ztk' zF' zN' d1 d2 l1 l2)
  k_with "e_55" => k_dflt (first | (k_extra "m_on"; refine epsT2 ?_; generalize pj1 _ = zh'; generalize pl2 _ = zo'; intro zF' zN' zd') | intro zh' zo' zF' zN' zd')
  k_with "e_56" => k_dflt (first | (k_extra "m_on"; refine epsT3 ?_; generalize pj1 _ = zh'; generalize pj2 _ = ztk'; generalize pl3 _ = zt'; intro zF' zN') | intro zh' ztk' zt' zF' zN')
  k_with "e_57" => k_dflt (first | (k_extra "m_on"; refine epsT5 ?_; generalize pj1 _ = zh'; generalize pj2 _ = ztk'; generalize pj3 _ = zt1; generalize pj4 _ = zt2; generalize pl5 _ = zt3; intro zR' zF' zN' zst) | intro zh' ztk' zt1 zt2 zt3 zR' zF' zN' zst)
  k_with "e_58" => k_dflt (first | (k_extra "m_on"; refine epsT2 ?_; generalize pj1 _ = zD; generalize pl2 _ = zh'; intro zF' zN' l1) | intro zD zh' zF' zN' l1)
  k_with "e_59" => k_dflt (first | (k_extra "m_on"; refine epsT3 ?_; generalize pj1 _ = zD; generalize pj2 _ = zw9; generalize pl3 _ = zh'; intro zF' zN' l1 zI' zc8 zc9) | intro zD zw9 zh' zF' zN' l1 zI' zc8 zc9)
  k_with "m_l" => k_dflt (first | exact fr_list (by assumption) (by assumption) | exact slice1_list (News.isList (by assumption) (by k_mem)) | exact slice16_list (News.isList (by assumption) (by k_mem)) | is_list)
  k_with "m_s" => k_dflt (exact Std.keeps (by assumption) (Fr.keep (by assumption)))
  k_with "e_Q" => (show Qm _; simp (disch := (k_dflt (refine id ?_; k_extra "e_q"))) only [↓Qm.t])
  k_with "m_on" => (with_reducible rename ZOn => zOn)
  k_with "m_go" => k_dflt (first | (k_extra "m_on"; refine Std.go2 (by assumption) fun zX zT => ?_) | refine Std.go (by assumption) fun zX zp zlo zme zmg zmb zT => ?_)
  k_with "m_gS" => k_dflt (first | (k_extra "m_on"; refine Std.go2 zS fun zX zT => ?_) | refine Std.go zS fun zX zp zlo zme zmg zmb zT => ?_)
  k_with "m_fo" => (first | k_extra "m_on" | k_fold)
  k_with "e_t" => k_dflt (first | (k_extra "m_on"; refine epsT1 ?_; generalize zT1 _ _ = zt9) | intro zt9)
  k_with "call builtin:abs" => (k_extra "m_on"; k_here; refine call_abs_int ?_; refine epsT2 ?_; generalize pj1 _ = zt9; generalize pl2 _ = ztk9)
  k_with "k_enter" => (k_extra "m_on"; refine code_def (by k_asm) (by k_asm) (by k_asm) (by k_asm) (by k_asm) rfl rfl rfl (by k_is) (by k_is) (by k_room) (by first | exact BindsTo.of_eq rfl | exact binds_K (by k_in) rfl (by k_is) rfl rfl rfl) (by exact locs rfl) ?_ (by exact rfl) (by exact rfl) (by exact rfl) (by decide); k_extra "e_51"; (try dsimp only); (try k_lift zB9); (try k_gentoks))
  k_with "call ref" => (k_extra "m_on"; k_here; first | (refine call_cls0 (by k_asm) (by k_asm) (by k_asm) (by k_is) (by k_is) ?_; k_extra "e_52"; (try k_lt l1); (try k_lt2 l2); (try k_sweep)) | (refine call_cls (by k_asm) (by k_asm) (by k_asm) (by k_is) (by k_is) (by k_is) ?_; k_extra "e_52"; (try k_lt l1); (try k_lt2 l2); (try k_sweep); k_enter))
  k_with "setAttr ref" => (k_extra "m_on"; k_here; k_dflt (refine set_dict (by k_asm) (by k_asm) (by k_asm) (by k_inst) (by exact rfl) (by k_is) (by k_is) (by k_is) (by k_is) (by k_get) (by k_put) (by k_upd) (by exact Nat.le_of_ble_eq_true rfl) ?_; k_extra "e_26"); (try k_sweep))
  k_with "call type:list" => (k_extra "m_on"; k_here; (with_reducible show wpAny _ _ (call (Value.type _) [Value.ref _]) _ _ _); k_dflt ((first | refine kup_listOfT (by k_asm) (by k_asm) (by k_mem) (by kl_lit) ?_ (by kl_room) | refine kup_listOf (by k_asm) (by k_asm) (by k_mem) (by kl_lit) ?_ (by kl_room)); k_extra "e_53"); (try k_lt l1); (try k_sweep))
  k_with "binaryOp Mult ref int" => (k_extra "m_on"; (fail_if_success (clear zGo)); have zGo := True.intro; walk_at "binaryOp Mult ref int"; clear zGo; (with_reducible rename Nat => zq4); (with_reducible rename Heap => zq2); (revert zq4); (with_reducible rename Addr => zq1); (revert zq1 zq2); k_extra "m_lp")
  k_with "eval Dict nil nil" => (k_extra "m_on"; (fail_if_success (clear zGo)); have zGo := True.intro; walk_at "eval Dict nil nil"; clear zGo; (with_reducible rename Obj => zq3); (with_reducible rename Heap => zq2); (with_reducible rename Addr => zq1); (revert zq1 zq2 zq3); k_extra "m_lp")
  k_with "call builtin:max" => (k_extra "m_on"; k_here; (with_reducible show wpAny _ _ (call (Value.builtin _) [Value.int _ _, Value.int _ _]) _ _ _); (with_unfolding_all refine max_two_N (by rfl) (by k_asm) (by k_asm) ?_); k_extra "e_35")
  k_with "call builtin:min" => (k_extra "m_on"; k_here; (with_reducible show wpAny _ _ (call (Value.builtin _) [Value.int _ _, Value.int _ _]) _ _ _); (with_unfolding_all refine min_two_N (by rfl) (by k_asm) (by k_asm) ?_); k_extra "e_35")
  k_with "m_lp" => k_dflt (repeat' (first | (with_reducible refine epsT1 ?_; generalize zT1 _ _ = zq9) | with_reducible intro))
  k_with "m_cells" => (k_extra "m_on"; first
    | ((have zq9 := CellsAre.one zY'; replace zq9 := epsX zq9; generalize zXc _ _ = zo1 at zq9); (obtain ⟨zq8, zd1⟩ := zq9); subst zq8; clear zY')
    | ((have zq9 := CellsAre.two zY'; replace zq9 := epsX zq9; generalize zXc _ _ = zo1 at zq9; replace zq9 := epsX zq9; generalize zXc _ _ = zo2 at zq9); (obtain ⟨zq8, zd1, zd2⟩ := zq9); subst zq8; clear zY')
    | ((have zq9 := CellsAre.three zY'; replace zq9 := epsX zq9; generalize zXc _ _ = zo1 at zq9; replace zq9 := epsX zq9; generalize zXc _ _ = zo2 at zq9; replace zq9 := epsX zq9; generalize zXc _ _ = zo3 at zq9); (obtain ⟨zq8, zd1, zd2, zd3⟩ := zq9); subst zq8; clear zY'))
  k_with "eval Lambda" => (k_extra "m_on"; k_here; kn_here; (k_dflt (refine kla_eval rfl ?_)); (k_dflt (refine kla_nest (by k_asm) (by k_asm) (by k_asm) (by kn_code) rfl (by k_updF) (by kn_triples) (by kn_among) (by exact rfl) ?_; k_extra "e_54")); (try dsimp only at zN'); (try k_lt l1); (try k_lt2 l2))
  k_with "storeName" => (k_extra "m_on"; k_here; k_dflt (k_extra "FN"; refine storeX_C (by exact lF') (by exact lN') (by rfl) (by k_updF) (by k_asm) ?_ (by rfl) (by rfl); k_extra "e_55"); (try dsimp only at zN'); (try k_sweep))
  k_with "call builtin:sum" => (k_extra "m_on"; k_here; (with_reducible show wpAny _ _ (call (Value.builtin "sum") [Value.ref _]) _ _ _); k_dflt (refine sumK (by rfl) (by k_asm) (by k_asm) (by is_list) (by first | l_ints | l_intsW) ?_; k_extra "e_56"); (try simp only [List.sum_cons, List.sum_nil]))
  k_with "call type:range" => (k_extra "m_on"; k_here; k_extra "FN"; (first | (with_unfolding_all refine range1_rows (by exact lF') (by exact lN') ?_) | (with_unfolding_all refine range2_rows (by exact lF') (by exact lN') ?_)); k_extra "e_57")
  k_with "call builtin:list.append" => (k_extra "m_on"; k_here; (with_reducible show wpAny _ _ (call (Value.builtin _) [Value.ref _, _]) _ _ _); k_dflt (refine append_K (by k_asm) (by k_asm) (by k_upd) ?_ (by size_fits); k_extra "e_26"); (try k_sweep))
  k_with "binaryOp Add ref ref" => (k_extra "m_on"; k_here; (with_reducible show wpAny _ _ (binaryOp _ (Value.ref _) (Value.ref _)) _ _ _); k_dflt (refine kmk_add_lit (by k_asm) (by k_asm) (by kmk_list) (by kmk_list) (by kl_lit) ?_ (by kl_room); k_extra "e_58"); (try k_lt l1); (try k_sweep))
  k_with "newTuple" => (k_extra "m_on"; k_here; k_dflt (k_extra "FN"; refine kup_newTuple (by exact lF') (by exact lN') ?_ (by first | size_fits | decide); k_extra "e_58"; (try k_lt l1); (try k_sweep)))
  k_with "subscriptTail Name Constant ref int" => (k_extra "m_on"; k_here; k_dflt ((with_reducible show wpAny _ _ (subscriptTail _ _ (Value.ref _) (Value.int _ _)) _ _ _); refine item_list_ints (by is_list) (by l_ints) (by l_idx) (by l_idx) (by l_idx) ?_; k_extra "e_t"))
  k_with "unpackItems ref" => (k_extra "m_on"; k_here; k_dflt (refine unpackItemsN_ (by k_asm) (by k_asm) (by first | assumption | exact Fr.tup (by assumption) (by assumption) | exact News.isTup (by assumption) (by k_mem)) (by exact rfl) (by exact rfl) ?_; k_extra "e_26"; (try k_sweep)))
  k_with "subscriptTail Name Slice ref ref" => (k_extra "m_on"; k_here; k_dflt (refine slice_list (by assumption) (by assumption) (by first | assumption | exact Fr.lst (by assumption) (by assumption) | exact News.isList (by assumption) (by k_mem)) (by first | exact .none | exact .int _ _) (by first | exact .none | exact .int _ _) ?_; k_extra "e_26"))
  k_with "subscriptTail Name Slice ref ref" => (k_extra "m_on"; k_here; (with_reducible show wpAny _ _ (subscriptTail _ (PySem.Expr.Slice _ _ none _) (Value.ref _) (Value.ref _)) _ _ _); k_dflt (refine kms_slice_lit (by k_asm) (by k_asm) (by kmk_list) (by kmk_part) (by kmk_part) (by kl_lit) ?_ (by with_unfolding_all rfl) (by kmk_pure) (by kmk_size); k_extra "e_58"); (try k_lt l1); (try k_sweep))
  k_with "subscriptTail Name Slice ref ref" => (k_extra "m_on"; k_here; (with_reducible show wpAny _ _ (subscriptTail _ (PySem.Expr.Slice _ _ none _) (Value.ref _) (Value.ref _)) _ _ _); k_dflt (refine kmk_slice_ints (by k_asm) (by k_asm) (by kmk_list) (by kmk_part) (by kmk_part) (by l_ints) (by kmk_nums) (by kmk_len) ?_ (by with_unfolding_all rfl) (by kmk_pure) (by kmk_size); k_extra "e_59"; (try simp only [Int.reduceNeg, Int.neg_neg, Int.reduceToNat] at zI' zc8 zc9); (try k_lt l1); (try k_sweep)))
  k_with "m_enter" =>
    ((
        k_extra "m_go";
        k_dflt (refine Calls.fn (by assumption) (by k_is) (by k_is) (by decide) (by exact fun _ => BindsTo.of_eq rfl) (by exact locs rfl) ?_ (by exact rfl) (by exact rfl) (by exact rfl) (by decide));
        k_extra "e_44"; (try dsimp only); (try k_extra "m_fo")))
  k_with "m_renter" =>
    ((
        k_extra "m_go";
        k_dflt (refine Raises.fn (by assumption) (by k_is) (by k_is) (by decide) (by exact fun _ => BindsTo.of_eq rfl) (by exact locs rfl) ?_ (by exact rfl) (by exact rfl) (by exact rfl) (by decide));
        k_extra "e_45"; (try dsimp only); (try k_extra "m_fo")))
  k_with "m_rup" =>
    (exact RaisePost.up (by assumption) (by assumption) (by assumption) ⟨_, by assumption⟩ (by assumption) (by decide))
  k_with "m_fenter" =>
    ((
        k_dflt (refine CallsR.fn (by assumption) (by k_is) (by k_is) (by decide) (by exact fun _ => BindsTo.of_eq rfl) (by exact locs rfl) ?_ (by exact rfl) (by exact rfl) (by exact rfl) (by decide));
        k_extra "e_46"; k_extra "m_gS"; (try dsimp only); (try k_extra "m_fo")))
  k_with "wrow_close" =>
    ((exfalso; omega))
  k_with "wrow_close" =>
    (((with_reducible show RetR _ _ _ _ _ _); refine RetR.intro (by assumption) (by assumption) ?_; first | rfl | exact ⟨_, rfl⟩ | (focus (k_extra "m_close"; done))))
  k_with "passes_own" =>
    (exact Up.passes rfl rfl)
  k_with "m_wend" =>
    (first
        | exact WPost2.intro (by assumption) (by first | assumption | exact News.tail1 (by assumption) | exact News.tail2 (by assumption) | exact fun _ q => nomatch q) (by first | rfl | (simp; done)) (by first | rfl | (simp; done)) (by intro z h1 h2; simp [h1, h2]) (by k_extra "m_next")
        | exact WPost3.intro (by assumption) (by first | assumption | exact News.tail1 (by assumption) | exact News.tail2 (by assumption) | exact fun _ q => nomatch q) (by first | rfl | (simp; done)) (by first | rfl | (simp; done)) (by first | rfl | (simp; done)) (by intro z h1 h2 h3; simp [h1, h2, h3]) (by k_extra "m_next"))
  k_with "getItem ref str" =>
    (((rename Obj.IsDictOf _ _ _ => zdd); (dsimp only at zdd ⊢); walk_at "getItem ref str"))
  k_with "m_tend" =>
    (first
        | ((try (rename Obj.IsDictOf _ _ _ => zdd; clear zdd)); exact TPost.intro (by assumption) (by first | assumption | exact News.tail1 (by assumption) | exact News.tail2 (by assumption)) (by first | exact if_pos rfl | rfl | (simp; done)) (by intro z h1 h2; simp [h1, h2]))
        | (refine TPost.ret ?_; (repeat walk_at "m_leaf"); (try dsimp only); wrow_close)
        | (refine RPost.intro ?_; (repeat walk_at "m_leaf"); (try dsimp only); wrow_close))
  k_with "m_centerC" =>
    ((
        k_extra "m_go";
        k_dflt (refine Calls.fnC (by assumption) (by k_is) (by k_is) (by decide) (by exact fun _ => BindsTo.of_eq rfl) (by exact rfl) (by decide) ?_ (by exact rfl) (by exact rfl) (by exact rfl));
        k_extra "e_47"; (first | k_extra "m_cells" | k_cells zY'); (try dsimp only); (try k_extra "m_fo")))
  k_with "m_lam" =>
    ((
        k_extra "m_go";
        k_dflt (refine Calls.lam (by assumption) (by assumption) (by assumption) (by decide) (by exact rfl) ?_ (by exact rfl) (by exact rfl) (by exact rfl) (by decide));
        k_extra "e_44"; (try dsimp only); (try k_extra "m_fo")))
  k_with "m_rlam" =>
    ((
        k_extra "m_go";
        k_dflt (refine Raises.lam (by assumption) (by assumption) (by assumption) (by decide) (by exact rfl) ?_ (by exact rfl) (by exact rfl) (by exact rfl) (by decide));
        k_extra "e_45"; (try dsimp only); (try k_extra "m_fo")))
  k_with "m_tenter" =>
    ((
        k_dflt (refine CallsT.fnC (by assumption) (by assumption) (by assumption) (by k_is) (by k_is) (by decide) (by exact fun _ => BindsTo.of_eq rfl) (by exact rfl) (by decide) ?_ (by exact rfl) (by exact rfl) (by exact rfl));
        k_extra "e_48"; (first | k_extra "m_cells" | k_cells zY'); k_extra "m_gS"; (try simp only [List.cons_append, List.nil_append] at zN'); (try dsimp only); (try k_extra "m_fo")))
  k_with "wrow_close" =>
    (((with_reducible show RetT _ _ _ _ _ _ _); refine RetT.intro (by assumption) (by assumption) (by assumption) (by k_mem) (by first | with_reducible assumption | kn_triples) ?_; first | rfl | exact ⟨_, rfl⟩ | (focus (k_extra "m_close"; done)) | (exfalso; omega)))
  k_with "wrow_close" =>
    (((with_reducible show JoinPost _ _ _ _ _ _ _ _); exact JoinPost.intro (by assumption) (by assumption) (by first | rfl | exact (if_pos (by omega)).symm | exact (if_neg (by omega)).symm | k_extra "m_join")))
  k_with "k_ne" =>
    (((try dsimp only); first | exact neRow (by with_reducible assumption) (by k_mem) | exact neRow2 (by with_reducible assumption) (by k_mem)))
  k_with "k_ne" =>
    (((try dsimp only); with_reducible assumption))
  k_with "k_in" =>
    (exact Frag.In.keeps (by with_reducible assumption) (Fr.keep (by with_reducible assumption)))
  k_with "m_menter" =>
    ((
        k_dflt (refine CallsM.fn (by assumption) (by assumption) (by k_is) (by k_is) (by decide) (by exact fun _ => BindsTo.of_eq rfl) (by exact locs rfl) ?_ (by exact rfl) (by exact rfl) (by exact rfl) (by decide));
        k_extra "e_49"; k_extra "m_gS"; (try dsimp only); (try k_extra "m_fo")))
  k_with "wrow_close" =>
    (((with_reducible show RetM _ _ _ _ _ _ _); refine RetM.intro (by assumption) (by assumption) (by k_mem) (by k_extra "m_deck") ?_; first | rfl | exact ⟨_, rfl⟩ | (focus (k_extra "m_close"; done))))
  k_with "wrow_close" =>
    (((with_reducible show DeckStep _ _ _ _ _ _ _ _); exact DeckStep.intro (by assumption) (by assumption) (by k_mem)))
  k_with "m_keep" =>
    (first | exact Or.inr (by (try dsimp only); decide) | exact Or.inl list_not_tab | exact Or.inl inst_not_tab | exact Or.inl dict_not_tab | exact Or.inl (DeckO.not_tab (by with_reducible assumption)) | exact Or.inl (RowsO.not_tab (by with_reducible assumption)) | exact Or.inl (cell_not_tab (by assumption)))
  k_with "m_genter" =>
    ((
        k_dflt (refine CallsG.fn (by assumption) (by exact hBn) (by k_is) (by k_is) (by decide) (by exact fun _ => BindsTo.of_eq rfl) (by exact locs rfl) ?_ (by exact rfl) (by exact rfl) (by exact rfl) (by decide));
        k_extra "e_50"; k_extra "m_gS"; (try dsimp only); (try k_extra "m_fo")))
  k_with "wrow_close" =>
    (((with_reducible show RetG _ _ _ _ _); first
        | exact RetG.int (by assumption) (by assumption) (by k_mem) (by k_mem) (by k_mem) (by lcg_sub) (by with_reducible assumption) (by first | with_reducible assumption | exact RowsO.mono (by with_reducible assumption) (Nat.le_succ _)) (by k_ne) (by k_ne) (by k_extra "m_bits")
        | exact RetG.mark (by assumption) (by assumption) (by k_mem) (by k_mem) (by k_mem) (by k_mem) (by k_mem) (by lcg_sub) (by rfl) (by rfl) (by with_reducible assumption) (by with_reducible assumption) (by k_ne) (by k_ne) (by k_ne) (by k_ne) (by k_ne) (by k_ne) (by k_extra "m_bits")))
  k_with "wrow_close" =>
    (((with_reducible show LawEnd _ _ _ _ _); exact LawEnd.intro hBL (by assumption) (by assumption) (by assumption) (by k_mem) (by k_mem) (by k_mem) (by k_mem)))
  k_with "k_ne" =>
    (((try dsimp only); first | exact neTwo (by with_reducible assumption) (by k_mem) (by k_mem) | exact neTwo2 (by with_reducible assumption) (by k_mem) (by k_mem)))
  k_with "k_inst" =>
    (exact inst_of (by assumption) (by assumption) (by assumption))
  k_with "k_get" =>
    (assumption)
  k_with "m_leaf" =>
    (with_reducible (first | ((show kN _ _ _ _ _ _ _ _); (first | refine gN ?_ | refine gNr ?_)) | ((show kOp1 _ _ _ _ _ _ _ _ _); refine gOp1 ?_) | ((show kOp2 _ _ _ _ _ _ _ _); refine gOp2 ?_) | ((show kCw _ _ _ _ _ _ _ _ _); refine gCw ?_) | ((show kAr _ _ _ _ _ _ _ _ _); (first | refine gAr0 ?_ | refine gAr ?_); (try ((show wpAny _ _ (call _ (_ ++ _)) _ _ _); dsimp only [List.cons_append, List.nil_append]))) | ((show kAc _ _ _ _); refine gAc ?_; (try ((show wpAny _ _ (call _ (_ ++ _)) _ _ _); dsimp only [List.cons_append, List.nil_append]))) | ((show kCk _ _ _ _ _ _ _ _); refine gCk (by k_in) ?_; (try dsimp only)) | ((show kSt _ _ _ _ _ _ _ _); refine gSt ?_) | ((show kX _ _ _); refine gX ?_) | ((show kIf _ _ _ _ _ _ _ _ _); (first | refine gIf1 ?_ | refine gIf0 ?_ | refine gIf ?_)) | ((show kRt _ _ _); refine gRt ?_) | ((show kTr _ _ _ _ _ _); refine gTr ?_) | ((show kCb _ _ _ _ _ _ _); refine gCb ?_; (try dsimp only)) | ((show kMk _ _ _ _ _ _ _); refine gMk ?_) | ((show kAo _ _ _ _ _ _ _ _); refine gAo ?_) | ((show kAnd _ _ _ _ _ _ _ _ _ _); refine gAnd ?_) | ((show kIe _ _ _ _ _ _ _ _ _); (first | refine gIe1 ?_ | refine gIe0 ?_ | refine gIe ?_))))
  k_with "wrow_close" =>
    (first | ((with_reducible show Ret _ _ _ _ _); refine Ret.intro (by assumption) ?_; first | rfl | exact ⟨_, rfl⟩ | (focus (k_extra "m_close"; done))) | ((first | (with_reducible show False) | (with_reducible show Ret _ _ _ _ _)); exfalso; omega))
  k_with "wrow_close" =>
    (((with_reducible show EltPost _ _ _ _ _); refine EltPost.intro ?_ ?_; first | rfl | exact ⟨_, rfl⟩ | (focus (k_extra "m_eclose"; done)); first | exact fun _ _ e => e | assumption))
  k_with "wrow_close" =>
    (((with_reducible show RowPost _ _ _ _ _); refine RowPost.intro (by assumption) (List.mem_cons_self ..) (by first | assumption | exact Heap.get?_none_of_le (Nat.le_refl _)) (by assumption) ?_; (focus (k_extra "m_eclose"; done))))
  k_with "wrow_close" =>
    (((with_reducible show TestPost _ _ _ _); refine TestPost.intro ?_ (by first | exact fun _ _ e => e | assumption); first | rfl | (focus (k_extra "m_tclose"; done))))
  k_with "call ref" =>
    ((k_here; exfalso; omega))
  k_with "exec For" =>
    ((k_here; k_dflt ((with_reducible rename Fr _ _ _ _ => lF'); with_unfolding_all refine for_inv lF' (by exact rfl) (by exact rfl) ?_)))
  k_with "pyIter ref" =>
    ((k_here; k_dflt ((refine iter_accW (by assumption) (by rfl) (by k_extra "m_l") (by first | exact locals_ne (by assumption) (by assumption) | exact locals_neN (by assumption) (by k_mem)) (by k_extra "m_len") (by assumption) (by assumption) (by rfl) (by decide) ?_ ?_; k_extra "e_1"; rotate_left; k_extra "e_2"; rotate_left; rotate_right 2); (try k_extra "m_item"); (try dsimp only); (try k_extra "m_fo"); rotate_left; (try dsimp only); (try k_extra "m_fo"); rotate_right)))
  k_with "pyIter ref" =>
    ((k_here; k_dflt ((refine iter_accI (by assumption) (by rfl) (by k_extra "m_l") (by first | exact locals_ne (by assumption) (by assumption) | exact locals_neN (by assumption) (by k_mem)) (by k_extra "m_len") (by assumption) (by assumption) (by rfl) (by decide) ?_ ?_; k_extra "e_1"; rotate_left; k_extra "e_2"; rotate_left; rotate_right 2); (try k_extra "m_item"); (try dsimp only); (try k_extra "m_fo"); rotate_left; (try dsimp only); (try k_extra "m_fo"); rotate_right)))
  k_with "pyIter ref" =>
    ((k_here; k_dflt ((refine iter_accR (by assumption) (by rfl) (by k_extra "m_l") (by first | exact locals_ne (by assumption) (by assumption) | exact locals_neN (by assumption) (by k_mem)) (by k_extra "m_len") (by assumption) (by assumption) (by rfl) (by decide) ?_ ?_; k_extra "e_3"; rotate_left; k_extra "e_3"; rotate_left; rotate_right 2); (try k_extra "m_item"); (try dsimp only); (try k_extra "m_fo"); rotate_left; (try k_extra "m_bad"); (try dsimp only); (try k_extra "m_fo"); rotate_right)))
  k_with "pyIter ref" =>
    ((k_here; k_dflt ((refine iter_accRI (by assumption) (by rfl) (by k_extra "m_l") (by first | exact locals_ne (by assumption) (by assumption) | exact locals_neN (by assumption) (by k_mem)) (by k_extra "m_len") (by assumption) (by assumption) (by rfl) (by decide) ?_ ?_; k_extra "e_3"; rotate_left; k_extra "e_3"; rotate_left; rotate_right 2); (try k_extra "m_item"); (try dsimp only); (try k_extra "m_fo"); rotate_left; (try k_extra "m_bad"); (try dsimp only); (try k_extra "m_fo"); rotate_right)))
  k_with "binaryOp FloorDiv int int" =>
    ((k_here; k_dflt (with_reducible refine floordiv_int (by assumption) ?_ (Or.inl (PyProof.noPylong_of_log2 (by assumption))))))
  k_with "binaryOp FloorDiv int int" =>
    ((k_here; k_dflt (with_reducible refine floordiv_int (abs_ne (by assumption)) ?_ (Or.inl (pyl_abs (by assumption))))))
  k_with "call builtin:len" =>
    ((k_here; k_dflt ((with_reducible show wpAny _ _ (call (Value.builtin "len") [Value.ref _]) _ _ _); refine len_vals (by k_extra "m_l") (by ((try simp only [List.length_cons, List.length_nil]); omega)) ?_; (try simp only [List.length_cons, List.length_nil]))))
  k_with "eval ListComp" =>
    ((k_here; k_dflt (refine lc_eval (by assumption) (by exact rfl) (by decide) (by exact rfl) (by decide) (by exact rfl) ?_)))
  k_with "exec Assign cons ListComp" =>
    ((k_here; k_dflt (refine lc_assign (by assumption) (by exact rfl) (by exact rfl) (by decide) (by exact rfl) (by decide) (by exact rfl) (by exact rfl) (by exact rfl) ?_)))
  k_with "exec Assign cons ListComp" =>
    ((k_here; k_dflt (refine lcR_assign (by assumption) (by exact rfl) (by exact rfl) (by exact rfl) (by decide) ?_)))
  k_with "pyIter ref" =>
    ((k_here; k_dflt ((refine comp_list (by rfl) (by k_extra "m_l") (by first | assumption | omega | (k_extra "m_size")) (by assumption) (by assumption) ?_ ?_; k_extra "e_4"; rotate_left; k_extra "e_5"; rotate_left; rotate_right 2); (try k_extra "m_elt"); (try dsimp only); (try k_extra "m_fo"); rotate_left; (try (have zne := neNat zne)); (try k_extra "m_made"); (try dsimp only); (try k_extra "m_fo"); rotate_right)))
  k_with "pyIter ref" =>
    ((k_here; k_dflt ((refine comp_listA (by rfl) (by k_extra "m_l") (by first | assumption | omega | (k_extra "m_size")) (by assumption) (by assumption) ?_ ?_; k_extra "e_4"; rotate_left; k_extra "e_6"; rotate_left; rotate_right 2); (try k_extra "m_elt"); (try dsimp only); (try k_extra "m_fo"); rotate_left; (try k_extra "m_made"); (try dsimp only); (try k_extra "m_fo"); rotate_right)))
  k_with "pyIter ref" =>
    ((k_here; k_dflt ((refine comp_raiseL (by assumption) (by rfl) (by k_extra "m_l") (by first | assumption | omega | (k_extra "m_size")) (by k_extra "m_size") (by assumption) (by assumption) (by decide) (by rfl) (by rfl) ?_ ?_; k_extra "e_4"; rotate_left; k_extra "e_7"; rotate_left; rotate_right 2); (try k_extra "m_elt"); (try dsimp only); (try k_extra "m_fo"); rotate_left; (try k_extra "m_bad"); (try dsimp only); (try k_extra "m_fo"); rotate_right)))
  k_with "eval ListComp" =>
    ((k_here; k_dflt (refine lcP_eval (by assumption) (by exact rfl) (by exact rfl) (by decide) ?_)))
  k_with "call type:enumerate" =>
    ((k_here; k_dflt ((refine call_enum_comp (by assumption) (by rfl) (by first | exact News.isList (by assumption) (by k_mem) | exact slice89_list (by k_extra "m_l89") (News.isList (by assumption) (by k_mem)) | exact fr_list (by assumption) (by assumption)) (by k_extra "m_size") (by assumption) (by assumption) (by decide) (by rfl) (by rfl) (by rfl) (by decide) ?_ ?_; k_extra "e_8"; rotate_left; k_extra "e_9"; rotate_left; rotate_right 2); (try k_extra "m_elt"); (try dsimp only); (try k_extra "m_fo"); rotate_left; (try k_extra "m_made"); (try dsimp only); (try k_extra "m_fo"); rotate_right)))
  k_with "pyIter ref" =>
    ((k_here; k_dflt ((refine iter_range0 (by assumption) (by rfl) (by assumption) (by assumption) (by assumption) (by assumption) (by assumption) ?_; k_extra "e_10"); (try dsimp only); (try k_extra "m_fo"))))
  k_with "pyIter ref" =>
    ((k_here; k_dflt ((refine iter_rangeN (by assumption) (by rfl) (by assumption) (by assumption) (by assumption) (by assumption) (by assumption) (by rfl) (by decide) ?_ ?_; k_extra "e_11"; rotate_left; k_extra "e_2"; rotate_left; rotate_right 2); (try k_extra "m_lap"); (try dsimp only); (try k_extra "m_fo"); rotate_left; (try dsimp only); (try k_extra "m_fo"); rotate_right)))
  k_with "exec For Name Call cons nil" =>
    ((k_here; k_dflt (have zzO := (by assumption : OwnLoop); (with_reducible rename Fr _ _ _ _ => lF'); with_unfolding_all refine for_inv lF' (by exact rfl) (by exact rfl) ?_)))
  k_with "eval Name" =>
    ((k_here; k_dflt (refine ldFreeG (by exact rfl) (by exact rfl) (by assumption) (by exact rfl) (by assumption) (by assumption) ?_ (by decide) (by decide))))
  k_with "eval Name" =>
    ((k_here; k_dflt (refine ldFree (by exact rfl) (by exact rfl) (by assumption) (by exact rfl) (by k_mem) (by assumption) ?_ (by decide) (by decide))))
  k_with "pyIter ref" =>
    ((k_here; k_dflt ((refine comp_range (by rfl) (by assumption) (by first | decide | rfl) (by first | rfl | decide) (by decide) (by assumption) (by assumption) ?_ ?_; k_extra "e_4"; rotate_left; k_extra "e_12"; rotate_left; rotate_right 2); (try k_extra "m_elt"); (try dsimp only); (try k_extra "m_fo"); rotate_left; (try k_extra "m_made"); (try dsimp only); (try k_extra "m_fo"); rotate_right)))
  k_with "eval Name" =>
    ((k_here; k_dflt (refine ldC (by assumption) (by assumption) ?_ (by exact rfl) (by exact rfl) (by decide))))
  k_with "subscriptTail" =>
    ((k_here; k_dflt ((with_reducible show wpAny _ _ (subscriptTail _ _ (Value.ref _) (Value.int _ _)) _ _ _); refine item_list (by exact fr_list (by assumption) (by with_reducible assumption)) (by decide) (by decide) (by exact rfl) ?_)))
  k_with "subscriptTail" =>
    ((k_here; k_dflt ((with_reducible show wpAny _ _ (subscriptTail _ _ (Value.ref _) (Value.int _ _)) _ _ _); refine item_list_ints (by first | (with_reducible assumption) | exact News.isList (by assumption) (by k_mem)) (by with_reducible assumption) (by first | decide | omega) (by simp only [List.length_map, List.length_range]; first | decide | omega) (by first | decide | omega) ?_; k_extra "e_t")))
  k_with "call type:zip" =>
    ((k_here; k_dflt ((refine zip_L (by rfl) (by is_list) (by is_list) (by l_ints) (by l_ints) (by exact locals_neN (by assumption) (by k_mem)) (by exact locals_neN (by assumption) (by k_mem)) (by assumption) ?_; k_extra "e_13"))))
  k_with "binaryOp LShift int int" =>
    ((k_here; k_dflt (refine lshift_int (by assumption) (by assumption) ?_)))
  k_with "exec While Compare" =>
    ((k_here; k_dflt (k_extra "FN"; (with_unfolding_all refine while2 (by assumption) (by exact lF') (by exact lN') (by rfl) (by rfl) (by decide) (by assumption) ?_ (by passes_own); k_extra "e_14"); (try k_extra "m_turn"); (try dsimp only); (try k_extra "m_fo"))))
  k_with "exec While Compare" =>
    ((k_here; k_dflt (k_extra "FN"; (with_unfolding_all refine while3 (by assumption) (by exact lF') (by exact lN') (by rfl) (by rfl) (by rfl) (by decide) (by decide) (by decide) (by assumption) ?_ (by passes_own); k_extra "e_15"); (try k_extra "m_turn"); (try dsimp only); (try k_extra "m_fo"))))
  k_with "compareOp Eq ref ref" =>
    ((k_here; k_dflt ((with_reducible show wpAny _ _ (compareOp CmpOp.Eq (Value.ref _) (Value.ref _)) _ _ _); (with_unfolding_all refine eq_intsK (by is_list) (by l_intsC) (by is_list) (by l_intsC) (by units_room) ?_); (simp only [reduceCtorEq, decide_false, decide_true]))))
  k_with "exec For Name Name cons nil" =>
    ((k_here; k_dflt (have zzO := (by assumption : OwnLoop); (with_reducible rename Fr _ _ _ _ => lF'); with_unfolding_all refine for_inv lF' (by exact rfl) (by exact rfl) ?_)))
  k_with "compareOp Eq ref ref" =>
    ((k_here; k_dflt ((with_reducible show wpAny _ _ (compareOp CmpOp.Eq (Value.ref _) (Value.ref _)) _ _ _); (with_unfolding_all refine eq_intsT (by is_list) (by l_intsC) (by is_list) (by l_intsC) (by units_room) (by k_extra "m_eq") ?_))))
  k_with "compareOp In str str" =>
    (k_here; first | refine in_strL occ_a ?_ | refine in_strL occ_b ?_ | refine in_strL occ_c ?_ | refine in_strL occ_d ?_)
  k_with "eval IfExp" =>
    ((k_here; k_dflt ((refine ifexp_join (by assumption) (by assumption) (by assumption) ?_ ?_; rotate_left; k_extra "e_16"; rotate_left; rotate_right 2); rotate_left; (try dsimp only); (try k_extra "m_fo"); rotate_right)))
  k_with "compareOp NotEq ref ref" =>
    ((k_here; k_dflt ((with_reducible show wpAny _ _ (compareOp CmpOp.NotEq (Value.ref _) (Value.ref _)) _ _ _); (with_unfolding_all refine ne_intsT (by is_list) (by l_intsC) (by is_list) (by l_intsC) (by units_room) (by k_extra "m_eq") ?_))))
  k_with "compareOp Is ref ref" =>
    ((k_here; k_dflt (first | refine is_flag (by k_extra "m_s") (by rfl) ?_ | refine is_flag64 (by k_extra "m_s") (by rfl) ?_)))
  k_with "compareOp NotEq bool bool" =>
    (k_here; refine ne_boolT ?_)
  k_with "callWith ref" =>
    ((k_here; (first | refine callWith_K (by k_asm) (by k_is) ?_ (by k_dflt rfl) (by k_dflt rfl) | refine callWith_K0 (by k_in) (by k_is) ?_)))
  k_with "eval ListComp" =>
    ((k_here; k_dflt (refine lcI_eval (by assumption) (by exact rfl) (by decide) (by exact rfl) (by decide) (by exact rfl) ?_)))
  k_with "exec Raise some none" =>
    ((k_here; k_dflt (refine Raise_up (by rfl) ?_)))
  k_with "call ref" =>
    ((k_here; (with_reducible show wpAny _ _ (call (Value.ref 38) _) _ _ _); k_dflt ((refine sig_used (by k_extra "m_s") (by assumption) (by assumption) (by exact Nat.le_of_ble_eq_true rfl) ?_; k_extra "e_17"))))
  k_with "eval Constant int" =>
    (k_here; with_reducible refine cInt ?_)
  k_with "eval Constant str" =>
    (k_here; with_reducible refine cStr ?_)
  k_with "eval Constant str" =>
    (k_here; refine note_at (by with_reducible assumption) ?_; k_dflt (k_extra "m_note"))
  k_with "eval Constant int" =>
    (k_here; refine note_at (by with_reducible assumption) ?_; k_dflt (k_extra "m_note"))
  k_with "eval Constant str" =>
    (k_here; refine dead_at (by assumption) (by k_dflt omega))
  k_with "eval Constant int" =>
    (k_here; refine dead_at (by assumption) (by k_dflt omega))
  k_with "eval ListComp" =>
    ((k_here; k_dflt (refine blk_eval (by with_reducible assumption) (by exact rfl) (by exact rfl) (by decide) ?_)))
  k_with "exec Assign cons ListComp" =>
    ((k_here; k_dflt (refine blk_assign (by with_reducible assumption) (by exact rfl) (by exact rfl) (by exact rfl) (by decide) ?_)))
  k_with "eval ListComp" =>
    ((k_here; k_dflt ((with_reducible show wpAny _ _ (eval (Expr.ListComp _ [⟨Expr.Name _ _, _, [], 0⟩] _ _) _) _ _ _); refine lcP2_eval (by with_reducible assumption) (by exact rfl) (by decide) (by exact rfl) (by decide) (by exact rfl) ?_)))
  k_with "pyIter ref" =>
    ((k_here; k_dflt ((with_reducible show wpAny _ _ _ (fun it s₂ => BlkA _ _ _ _ (Expr.Name _ _) _ _ [] _ _ _ _ _ _ _ it s₂) _ _); (refine comp_rangeC (by with_reducible assumption) (by rfl) (by assumption) (by first | decide | rfl) (by first | rfl | decide) (by decide) (by assumption) (by assumption) (by intro _; rfl) (by intro _; rfl) (by exact rfl) (by exact rfl) (by exact rfl) (by exact rfl) ?_ ?_; k_extra "e_18"; rotate_left; k_extra "e_19"; rotate_left; rotate_right 2); (try k_extra "m_elt"); (try dsimp only); (try k_extra "m_fo"); rotate_left; (try k_extra "m_made"); (try dsimp only); (try k_extra "m_fo"); rotate_right)))
  k_with "pyIter ref" =>
    ((k_here; k_dflt ((with_reducible show wpAny _ _ _ (fun it s₂ => Blk _ _ _ _ (Expr.Name _ _) _ _ [] _ _ _ _ _ _ it s₂) _ _); (refine comp_listR (by with_reducible assumption) (by rfl) (by k_extra "m_l") (by first | assumption | omega | (k_extra "m_size")) (by assumption) (by assumption) (by decide) (by exact rfl) (by exact rfl) ?_ ?_; k_extra "e_20"; rotate_left; k_extra "e_21"; rotate_left; rotate_right 2); (try k_extra "m_elt"); (try dsimp only); (try k_extra "m_fo"); rotate_left; (try k_extra "m_made"); (try dsimp only); (try k_extra "m_fo"); rotate_right)))
  k_with "pyIter ref" =>
    ((k_here; k_dflt ((with_reducible show wpAny _ _ _ (fun it s₂ => Blk _ _ _ _ (Expr.Tuple _ _ _) _ _ [_] _ _ _ _ _ _ it s₂) _ _); (refine comp_test2 (by with_reducible assumption) (by rfl) (by first | (with_reducible assumption) | exact News.isList (by assumption) (by k_mem) | exact fr_list (by assumption) (by assumption)) (by k_extra "m_size") (by assumption) (by assumption) (by decide) (by exact rfl) (by exact rfl) (by exact rfl) (by decide) (by k_extra "m_pairs") ?_ (by exact rfl) ?_; k_extra "e_22"; rotate_left; k_extra "e_23"; rotate_left; rotate_right 2); (try k_extra "m_elt"); (try dsimp only); (try k_extra "m_fo"); rotate_left; (try k_extra "m_made"); (try dsimp only); (try k_extra "m_fo"); rotate_right)))
  k_with "call type:zip" =>
    ((k_here; k_dflt ((refine call_zip_comp (by with_reducible assumption) (by rfl) (by exact fr_list (by assumption) (by assumption)) (by first | exact slice1_list (News.isList (by assumption) (by k_mem)) | exact fr_list (by assumption) (by assumption) | is_list) (by first | assumption | omega | (k_extra "m_size")) (by assumption) (by assumption) (by decide) (by exact rfl) (by exact rfl) (by exact rfl) (by decide) (by exact rfl) (by exact rfl) ?_ ?_; k_extra "e_24"; rotate_left; k_extra "e_21"; rotate_left; rotate_right 2); (try k_extra "m_elt"); (try dsimp only); (try k_extra "m_fo"); rotate_left; (try k_extra "m_made"); (try dsimp only); (try k_extra "m_fo"); rotate_right)))
  k_with "newTuple" =>
    ((k_here; k_dflt (have zro9 := (by with_reducible assumption : RowsOn); (refine newTuple_NK (by assumption) (by assumption) ?_ (by first | size_fits | decide); k_extra "e_25"); (try dsimp only))))
  k_with "compareOp NotEq ref ref" =>
    ((k_here; k_dflt ((with_reducible show wpAny _ _ (compareOp CmpOp.NotEq (Value.ref _) (Value.ref _)) _ _ _); (with_unfolding_all refine ne_intsF (by is_list) (by l_intsC) (by is_list) (by l_intsC) (by units_room) (by k_extra "m_neq") ?_))))
  k_with "compareOp Eq ref ref" =>
    ((k_here; k_dflt ((with_reducible show wpAny _ _ (compareOp CmpOp.Eq (Value.ref _) (Value.ref _)) _ _ _); (with_unfolding_all refine eq_intsF (by is_list) (by l_intsC) (by is_list) (by l_intsC) (by units_room) (by k_extra "m_neq") ?_))))
  k_with "compareOp NotEq" =>
    ((k_here; k_dflt (refine ne_IsQ (by with_reducible assumption) (by with_reducible assumption) ?_)))
  k_with "call builtin:list.pop" =>
    ((k_here; k_dflt ((with_reducible show wpAny _ _ (call (Value.builtin _) [Value.ref _, Value.int 0 _]) _ _ _); (refine pop0_K (by assumption) (by assumption) (by k_upd) (by assumption) ?_; k_extra "e_26"))))
  k_with "call builtin:sum" =>
    ((k_here; k_dflt ((refine sum_keep (by with_reducible assumption) (by assumption) (by assumption) (by rfl) (by is_list) (by assumption) ?_; k_extra "e_27"); (try (have zst := fun b o e => zst2 b o (zst b o e))))))
  k_with "setItem ref ref" =>
    ((k_here; k_dflt ((try dsimp only); (with_reducible show wpAny _ _ (setItem (Value.ref _) (Value.ref _) (Value.ref _)) _ _ _); (refine setItem_sliceL (res := [_, _, _, _, _, _, _, _]) (by assumption) (by assumption) (by rfl) (by rfl) (by k_updF) (by first | exact IsPart.int _ _ | exact IsPart.none) (by first | exact IsPart.int _ _ | exact IsPart.none) (by k_mem) (by first | (show @Ne Nat _ _; k_extra "k_ne") | omega | (show @Ne Nat _ _; omega)) (by rfl) (by rfl) (by simp) (by rfl) (by rfl) ?_; k_extra "e_26"); (try dsimp only at zN'))))
  k_with "compareOp NotEq ref ref" =>
    ((k_here; k_dflt ((with_reducible show wpAny _ _ (compareOp CmpOp.NotEq (Value.ref _) (Value.ref _)) _ _ _); (try dsimp only); refine ne_bools (by first | (with_reducible assumption) | exact News.isList (by assumption) (by k_mem) | exact fr_list (by assumption) (by assumption)) (by first | with_reducible assumption | exact (.cons _ (.cons _ (.cons _ (.cons _ (.cons _ .nil)))))) (by first | (with_reducible assumption) | exact News.isList (by assumption) (by k_mem) | exact fr_list (by assumption) (by assumption)) (by first | with_reducible assumption | exact (.cons _ (.cons _ (.cons _ (.cons _ (.cons _ .nil)))))) (by units_room) (by k_extra "m_beq") ?_)))
  k_with "exec While BoolOp" =>
    ((k_here; k_dflt (k_extra "FN"; (with_unfolding_all refine while_deck (by assumption) (by exact lF') (by exact lN') (by assumption) ?_ ?_ ?_ (by passes_own); k_extra "e_28"; rotate_left; k_extra "e_29"; rotate_left; k_extra "e_30"; rotate_left; rotate_right 3); (try (have zJ := IntsAre.cons za zt zI)); (try (have zJ := IntsAre.cons 0 zt zI)); (try dsimp only); (try k_extra "m_fo"))))
  k_with "binaryOp Mult int int" =>
    ((k_here; k_dflt (with_reducible refine mul_int ?_ (by assumption))))
  k_with "setItem ref int" =>
    ((k_here; k_dflt ((with_reducible show wpAny _ _ (setItem (Value.ref _) (Value.int _ _) (Value.ref _)) _ _ _); (refine rows_set (by assumption) (by assumption) (by k_updF) (by with_reducible assumption) (by omega) ?_; k_extra "e_31"); (try dsimp only at zN'))))
  k_with "call builtin:sorted" =>
    ((k_here; k_dflt ((with_reducible show wpAny _ _ (call (Value.builtin _) [Value.ref _]) _ _ _); (refine kso_sorted (by assumption) (by assumption) (by is_list) (by with_reducible assumption) (by omega) ?_; k_extra "e_32"))))
  k_with "subscriptTail Call UnaryOp ref int" =>
    ((k_here; k_dflt ((with_reducible show wpAny _ _ (subscriptTail _ _ (Value.ref _) (Value.int _ _)) _ _ _); refine item_list_ints_negR (by is_list) (by with_reducible assumption) (by first | decide | omega) (by omega) (by first | decide | omega) ?_; k_extra "e_t")))
  k_with "subscriptTail Call Constant ref int" =>
    ((k_here; k_dflt ((with_reducible show wpAny _ _ (subscriptTail _ _ (Value.ref _) (Value.int _ _)) _ _ _); refine item_list_intsR (by is_list) (by with_reducible assumption) (by first | decide | omega) (by omega) (by first | decide | omega) ?_; k_extra "e_t")))
  k_with "compareOp Eq ref ref" =>
    ((k_here; k_dflt ((with_reducible show wpAny _ _ (compareOp CmpOp.Eq (Value.ref _) (Value.ref _)) _ _ _); (with_unfolding_all refine eq_intsT (by is_list) (by l_intsC) (by is_list) (by l_intsC) (by units_room) (by k_extra "m_eqT") ?_))))
  k_with "pyIter ref" =>
    ((k_here; k_dflt ((with_reducible show wpAny _ _ _ (fun it s₂ => Blk _ _ _ _ (Expr.Tuple _ _ _) _ _ [] _ _ _ _ _ _ it s₂) _ _); (refine comp_unp (by with_reducible assumption) (by rfl) (by exact News.isList (by assumption) (by k_mem)) (by omega) (by assumption) (by assumption) (by decide) (by exact rfl) (by exact rfl) (by exact rfl) (by decide) (by k_extra "m_hit") (by exact rfl) (by rfl) ?_; k_extra "e_33"); (try dsimp only); (try k_extra "m_fo"))))
  k_with "binaryOp Sub int int" =>
    ((k_here; k_dflt (have zgen9 := (by with_reducible assumption : SubGen); (refine sub_gen ?_; k_extra "e_34"); (try dsimp only))))
  k_with "CompSrc" =>
    ((k_here; k_dflt (k_extra "m_src")))
  k_with "execs cons" =>
    ((k_here; k_dflt ((with_reducible refine rN ?_); (try dsimp only))))
  k_with "execs cons" =>
    ((k_here; k_dflt (k_gentoks)))
  k_with "execs cons" =>
    ((k_here; k_dflt (k_extra "m_seg")))
  k_with "pyIter ref" =>
    ((k_here; k_dflt ((with_reducible rename List.Perm _ [] => zpm9); (have zpe9 := List.Perm.eq_nil zpm9); (subst zpe9); (with_reducible rename IntsAre _ [] => zie9); (have zve9 := ints_nil zie9); (subst zve9); (clear zpm9 zie9); (try dsimp only))))
  k_with "binaryOp Pow int int" =>
    ((k_here; k_dflt (first | ((with_reducible show wpAny _ _ (binaryOp _ (Value.int 10 _) (Value.int 21 _)) _ _ _); refine pow_lit21 ?_; (try dsimp only)) | ((with_reducible show wpAny _ _ (binaryOp _ (Value.int 10 _) (Value.int 20 _)) _ _ _); refine pow_lit20 ?_; (try dsimp only)))))
  k_with "binaryOp Mult int int" =>
    ((k_here; k_dflt ((with_reducible show wpAny _ _ (binaryOp _ (Value.int 5 _) (Value.int 100000000000000000000 _)) _ _ _); refine mul_lit5 ?_; (try dsimp only))))
  k_with "exec If" =>
    ((k_here; k_dflt (with_reducible refine rIf ?_)))
  k_with "eval IfExp" =>
    ((k_here; k_dflt (first | ((refine ifexp_join (by assumption) (by assumption) (by assumption) ?_ ?_; rotate_left; k_extra "e_16"; rotate_left; rotate_right 2); rotate_left; (try dsimp only); (try k_extra "m_fo"); rotate_right) | with_reducible refine rIe ?_)))
  k_with "exec Return some" =>
    ((k_here; k_dflt (with_reducible refine rRt ?_)))
  k_with "exec Assign" =>
    ((k_here; k_dflt ((with_reducible show wpAny _ _ (exec (Stmt.Assign [Expr.Name _ _] _ _) _) _ _ _); refine rSt (by rfl) ?_)))
  k_with "eval BinOp" =>
    ((k_here; k_dflt (with_reducible refine rBin ?_)))
  k_with "eval Compare" =>
    ((k_here; k_dflt (with_reducible refine rCmp (by with_unfolding_all rfl) ?_)))
  k_with "isTrue Compare" =>
    ((k_here; k_dflt (with_reducible refine rTst (by with_unfolding_all rfl) ?_)))
  k_with "eval Subscript" =>
    ((k_here; k_dflt (with_reducible refine rSub ?_)))
  k_with "eval Call Name" =>
    ((k_here; (refine rCall (by k_dflt rfl) ?_)))
  k_with "callWith ref" =>
    ((k_here; ((with_reducible show wpAny _ _ (callWith _ (Value.ref _) [] (backTo _ (starEach (_ :: _) _)) []) _ _ _); refine rCk (by k_asm) (by k_is) (by k_dflt rfl) (by k_dflt rfl) ?_)))
  k_with "callWith" =>
    ((k_here; ((with_reducible show wpAny _ _ (callWith _ (Value.builtin _) [] (backTo _ (starEach (_ :: _) _)) []) _ _ _); refine rCb (by k_dflt rfl) (by k_dflt rfl) ?_)))
  k_with "spliced" =>
    ((k_here; ((with_reducible show wpAny _ _ (spliced (backTo _ (starEach (_ :: _) _))) _ _ _); refine rAr (by k_dflt rfl) ?_)))
  k_with "eval List" =>
    ((k_here; k_dflt (with_reducible refine rLst ?_)))
  k_with "setAttr ref" =>
    ((k_here; k_dflt ((with_reducible rename DisA _ => zD9); k_extra "FN"; (refine set_dictP (by exact lF') (by k_asm) (by exact lN') (by k_mem) (by repeat' (first | exact UpdSF.head | refine' UpdSF.tail ?_)) (by exact zD9) (by rfl) (by k_is) (by k_is) (by k_is) (by k_is) (by k_get) (by k_put) (by exact Nat.le_of_ble_eq_true rfl) ?_; k_extra "e_35"); (try k_sweep))))
  k_with "execs cons" =>
    ((k_here; k_dflt ((with_reducible rename DisA _ => zD9); (with_reducible show wpAny _ _ (execs (Stmt.Assign [Expr.Attribute (Expr.Name _ _) _ _] (Expr.Constant _ _ _) _ :: Stmt.Assign [Expr.Attribute _ _ _] (Expr.Constant _ _ _) _ :: _) _) _ _ _); k_extra "FN"; (refine sets_rowA (by exact lF') (by exact lN') (by exact zD9) (by rfl) (by k_asm) (by repeat' (first | refine' SetsAre.cons ?_ | exact SetsAre.nil)) (by rfl) (by k_mem) (by repeat' (first | exact UpdSF.head | refine' UpdSF.tail ?_)) (by rfl) (by rfl) (by decide) (by k_is) (by k_is) (by k_is) (by k_ne) (by rfl) (by repeat' (first | exact List.forall_mem_nil _ | refine' List.forall_mem_cons.mpr ⟨by k_is, ?_⟩)) (by rfl) (by rfl) (by exact Nat.le_of_ble_eq_true rfl) ?_; k_extra "e_36"); (try k_sweep))))
  k_with "storeName" =>
    ((k_here; k_dflt (k_extra "FN"; (refine storeX_LF (by exact lF') (by exact lN') (by rfl) (by rfl) ?_; k_extra "e_26"); (try k_sweep))))
  k_with "newList" =>
    ((k_here; k_dflt ((refine newList_KF (by k_asm) (by k_asm) (by first | size_fits | decide) ?_; k_extra "e_37"); (try k_lt l1); (try k_sweep))))
  k_with "eval Tuple" =>
    ((k_here; k_dflt (with_reducible refine rTup ?_)))
  k_with "assignInOrder" =>
    ((k_here; k_dflt (with_reducible refine rAo ?_)))
  k_with "isTrue BoolOp" =>
    ((k_here; k_dflt (with_reducible refine rAnd ?_)))
  k_with "call ref" =>
    ((k_here; (with_reducible show wpAny _ _ (call (Value.ref 110) _) _ _ _); (first | (refine Calls.useE (whole_nil (by k_extra "m_s")) (by assumption) (by assumption) ?_; k_extra "e_38")| (refine Calls.useE (is_whole_int (by k_extra "m_s")) (by assumption) (by assumption) ?_; k_extra "e_38")| (refine Calls.useE (is_whole_mark (by k_extra "m_s") (by k_dflt exact Fr.keep (by assumption) _ _ (by assumption)) (by k_dflt exact Fr.keep (by assumption) _ _ (by assumption))) (by assumption) (by assumption) ?_; k_extra "e_38"))))
  k_with "call ref" =>
    ((k_here; (with_reducible show wpAny _ _ (call (Value.ref 234) _) _ _ _); (first | (refine Calls.useI (number_calls (by k_extra "m_s") (by k_dflt exact NumAt.keeps (by assumption) (Fr.keep (by assumption)))) (by assumption) (by assumption) ?_; k_extra "e_39"))))
  k_with "call ref" =>
    ((k_here; (with_reducible show wpAny _ _ (call (Value.ref 248) _) _ _ _); (first | (refine Calls.useI (fitting (by k_extra "m_s") (by assumption)) (by assumption) (by assumption) ?_; k_extra "e_39")| (refine Calls.useI (fitting (by k_extra "m_s") (by k_extra "m_fit")) (by assumption) (by assumption) ?_; k_extra "e_39"))))
  k_with "call ref" =>
    ((k_here; (with_reducible show wpAny _ _ (call (Value.ref 241) _) _ _ _); (first | (refine Calls.useI (whole_at (by k_extra "m_s") (by assumption)) (by assumption) (by assumption) ?_; k_extra "e_39")| (refine Calls.useI (whole (by k_extra "m_s")) (by assumption) (by assumption) ?_; k_extra "e_39"))))
  k_with "call ref" =>
    ((k_here; (with_reducible show wpAny _ _ (call (Value.ref 117) _) _ _ _); (first | (refine Calls.useE (boolean_bool (by k_extra "m_s")) (by assumption) (by assumption) ?_; k_extra "e_38"))))
  k_with "call ref" =>
    ((k_here; (with_reducible show wpAny _ _ (call (Value.ref 255) _) _ _ _); (first | (refine Calls.useI (cut_calls (by k_extra "m_s") (by assumption) (by assumption)) (by assumption) (by assumption) ?_; k_extra "e_39"))))
  k_with "call ref" =>
    ((k_here; (with_reducible show wpAny _ _ (call (Value.ref 730) _) _ _ _); (first | (refine Calls.useI (lcut_calls (by k_extra "m_s") (by assumption) (by assumption)) (by assumption) (by assumption) ?_; k_extra "e_39"))))
  k_with "call ref" =>
    ((k_here; (with_reducible show wpAny _ _ (call (Value.ref 316) _) _ _ _); (first | (refine Calls.useE (chained1 (by k_extra "m_s") (by k_extra "m_l") (by k_dflt exact NumsAt.keeps (by assumption) (Fr.keep (by assumption))) (by assumption) (by k_dflt exact news_tuple (by assumption) (by k_mem))) (by assumption) (by assumption) ?_; k_extra "e_38")| (refine Calls.useE (chained2 (by k_extra "m_s") (by k_extra "m_l") (by k_dflt exact NumsAt.keeps (by assumption) (Fr.keep (by assumption))) (by assumption) (by k_dflt exact news_tuple (by assumption) (by k_mem))) (by assumption) (by assumption) ?_; k_extra "e_38"))))
  k_with "call ref" =>
    ((k_here; (with_reducible show wpAny _ _ (call (Value.ref 234) _) _ (Up _ _ _ _ _) _); k_dflt (refine Raises.pass (number_nil (by k_extra "m_s")) (by assumption) (by assumption) (by exact rfl) (by decide) ⟨_, rfl⟩)))
  k_with "call ref" =>
    ((k_here; (with_reducible show wpAny _ _ (call (Value.ref 234) _) _ (Up _ _ _ _ _) _); k_dflt (refine Raises.pass (number_off (by k_extra "m_s") (by exact Fr.keep (by assumption) _ _ (by assumption)) (by exact Fr.keep (by assumption) _ _ (by assumption)) (by assumption)) (by assumption) (by assumption) (by exact rfl) (by decide) ⟨_, rfl⟩)))
  k_with "call ref" =>
    ((k_here; (with_reducible show wpAny _ _ (call (Value.ref 234) _) _ _ _); k_dflt (refine Raises.passC (number_off (by k_extra "m_s") (by exact Fr.keep (by assumption) _ _ (by assumption)) (by exact Fr.keep (by assumption) _ _ (by assumption)) (by assumption)) (by assumption) (by assumption) (by assumption) (by assumption) (by assumption) (by exact rfl) (by decide) (by exact rfl))))
  k_with "call ref" =>
    ((k_here; (with_reducible show wpAny _ _ (call (Value.ref 316) _) _ (Up _ _ _ _ _) _); k_dflt (refine Raises.pass (chained_off (by k_extra "m_s") (by k_extra "m_l") (by exact Fr.keep (by assumption) _ _ (by assumption)) (by exact Fr.keep (by assumption) _ _ (by assumption)) (by assumption)) (by assumption) (by assumption) (by exact rfl) (by decide) ⟨_, rfl⟩)))
  k_with "call ref" =>
    ((k_here; (with_reducible show wpAny _ _ (call (Value.ref 255) _) _ (Up _ _ _ _ _) _); k_dflt (refine Raises.pass (cut_zero (by k_extra "m_s")) (by assumption) (by assumption) (by exact rfl) (by decide) ⟨_, rfl⟩)))
  k_with "call ref" =>
    ((k_here; (with_reducible show wpAny _ _ (call (Value.ref 248) _) _ (Up _ _ _ _ _) _); k_dflt (refine Raises.pass (fitting_over (by k_extra "m_s") (by assumption)) (by assumption) (by assumption) (by exact rfl) (by decide) ⟨_, rfl⟩)))
  k_with "call ref" =>
    ((k_here; (with_reducible show wpAny _ _ (call (Value.ref 424) _) _ _ _); (first | (refine Calls.useI (power_small (by k_extra "m_s") (by k_extra "m_l") (by k_dflt exact ⟨_, rfl⟩) (by k_dflt exact ⟨_, rfl⟩) (by assumption) (by assumption)) (by assumption) (by assumption) ?_; k_extra "e_39")| (refine Calls.useI (power_big (by k_extra "m_s") (by k_extra "m_l") (by k_dflt exact ⟨_, rfl⟩) (by k_dflt exact ⟨_, rfl⟩) (by assumption) (by assumption) (by assumption) (by assumption)) (by assumption) (by assumption) ?_; k_extra "e_39"))))
  k_with "call ref" =>
    ((k_here; (with_reducible show wpAny _ _ (call (Value.ref 304) _) _ _ _); (first | (refine Calls.useI (one_more_calls (by k_extra "m_s") (by k_extra "m_l") (by k_dflt exact NumAt.int _ _) (by assumption)) (by assumption) (by assumption) ?_; k_extra "e_39"))))
  k_with "call ref" =>
    ((k_here; (with_reducible show wpAny _ _ (call (Value.ref 311) _) _ _ _); (first | (refine Calls.useI (one_less_calls (by k_extra "m_s") (by k_extra "m_l") (by k_dflt exact NumAt.int _ _) (by assumption)) (by assumption) (by assumption) ?_; k_extra "e_39"))))
  k_with "call ref" =>
    ((k_here; (with_reducible show wpAny _ _ (call (Value.ref 375) _) _ _ _); (first | (refine Calls.useI (magnitude_calls (by k_extra "m_s") (by k_extra "m_l")) (by assumption) (by assumption) ?_; k_extra "e_39"))))
  k_with "call ref" =>
    ((k_here; (with_reducible show wpAny _ _ (call (Value.ref 403) _) _ _ _); (first | (refine Calls.useI (bits_not_calls (by k_extra "m_s") (by k_extra "m_l")) (by assumption) (by assumption) ?_; k_extra "e_39"))))
  k_with "call ref" =>
    ((k_here; (with_reducible show wpAny _ _ (call (Value.ref 410) _) _ _ _); (first | (refine Calls.useI (shift_all (by k_extra "m_s") (by k_extra "m_l") (by k_dflt exact ⟨_, rfl⟩) (by k_dflt exact ⟨_, rfl⟩) (by assumption) (by assumption) (by assumption)) (by assumption) (by assumption) ?_; k_extra "e_39")| (refine Calls.useI (shift_zero (by k_extra "m_s") (by k_extra "m_l") (by k_dflt exact ⟨_, rfl⟩) (by k_dflt exact ⟨_, rfl⟩) (by decide)) (by assumption) (by assumption) ?_; k_extra "e_39"))))
  k_with "call ref" =>
    ((k_here; (with_reducible show wpAny _ _ (call (Value.ref 742) _) _ _ _); k_dflt (first | ((refine Calls.useMade (bits_calls (by k_extra "m_s")) (by assumption) (by assumption) ?_; k_extra "e_40")))))
  k_with "call ref" =>
    ((k_here; (with_reducible show wpAny _ _ (call (Value.ref 431) _) _ _ _); (first | (refine Calls.useE (is_nought_calls (by k_extra "m_s") (by k_extra "m_l") (by k_dflt exact NumAt.int _ _)) (by assumption) (by assumption) ?_; k_extra "e_38"))))
  k_with "call ref" =>
    ((k_here; (with_reducible show wpAny _ _ (call (Value.ref 438) _) _ _ _); (first | (refine Calls.useE (is_natural_calls (by k_extra "m_s") (by k_extra "m_l")) (by assumption) (by assumption) ?_; k_extra "e_38"))))
  k_with "call ref" =>
    ((k_here; (with_reducible show wpAny _ _ (call (Value.ref 417) _) _ _ _); (first | (refine Calls.useI (bit_count_all (by k_extra "m_s") (by k_extra "m_l") (by k_dflt exact ⟨_, rfl⟩)) (by assumption) (by assumption) ?_; k_extra "e_39"))))
  k_with "call ref" =>
    ((k_here; (with_reducible show wpAny _ _ (call (Value.ref 723) _) _ _ _); k_dflt (k_extra "m_told")))
  k_with "call ref" =>
    ((k_here; (with_reducible show wpAny _ _ (call (Value.ref 290) _) _ _ _); (first | (refine Calls.useI (remainder_calls (by k_extra "m_s") (by k_extra "m_l") (by k_dflt exact NumAt.keeps (by assumption) (Fr.keep (by assumption))) (by k_dflt exact NumAt.keeps (by assumption) (Fr.keep (by assumption))) (by assumption) (by assumption) (by assumption)) (by assumption) (by assumption) ?_; k_extra "e_39"))))
  k_with "call ref" =>
    ((k_here; (with_reducible show wpAny _ _ (call (Value.ref 297) _) _ _ _); (first | (refine Calls.useI (modulo_calls (by k_extra "m_s") (by k_extra "m_l") (by k_dflt exact NumAt.keeps (by assumption) (Fr.keep (by assumption))) (by k_dflt exact NumAt.keeps (by assumption) (Fr.keep (by assumption))) (by assumption) (by assumption) (by assumption)) (by assumption) (by assumption) ?_; k_extra "e_39"))))
  k_with "call ref" =>
    ((k_here; (with_reducible show wpAny _ _ (call (Value.ref 358) _) _ _ _); (first | (refine Calls.useE (unlike_calls (by k_extra "m_s") (by k_extra "m_l") (by k_dflt exact NumAt.keeps (by assumption) (Fr.keep (by assumption))) (by k_dflt exact NumAt.keeps (by assumption) (Fr.keep (by assumption)))) (by assumption) (by assumption) ?_; k_extra "e_38"))))
  k_with "call ref" =>
    ((k_here; (with_reducible show wpAny _ _ (call (Value.ref 262) _) _ _ _); (first | (refine Calls.useI (plus_all (by k_extra "m_s") (by k_dflt exact fr_list (by assumption) (by assumption)) (by k_dflt exact NumsAt.keeps (by assumption) (Fr.keep (by assumption))) (by assumption)) (by assumption) (by assumption) ?_; k_extra "e_39"))))
  k_with "call ref" =>
    ((k_here; (with_reducible show wpAny _ _ (call (Value.ref 269) _) _ _ _); (first | (refine Calls.useI (minus_all (by k_extra "m_s") (by k_dflt exact fr_list (by assumption) (by assumption)) (by k_dflt exact NumsAt.keeps (by assumption) (Fr.keep (by assumption))) (by assumption)) (by assumption) (by assumption) ?_; k_extra "e_39"))))
  k_with "call ref" =>
    ((k_here; (with_reducible show wpAny _ _ (call (Value.ref 276) _) _ _ _); (first | (refine Calls.useI (times_all (by k_extra "m_s") (by k_dflt exact fr_list (by assumption) (by assumption)) (by k_dflt exact NumsAt.keeps (by assumption) (Fr.keep (by assumption))) (by assumption)) (by assumption) (by assumption) ?_; k_extra "e_39"))))
  k_with "call ref" =>
    ((k_here; (with_reducible show wpAny _ _ (call (Value.ref 283) _) _ _ _); (first | (refine Calls.useI (quot_all (by k_extra "m_s") (by k_dflt exact fr_list (by assumption) (by assumption)) (by k_dflt exact NumsAt.keeps (by assumption) (Fr.keep (by assumption))) (by assumption) (by assumption) (by assumption)) (by assumption) (by assumption) ?_; k_extra "e_39"))))
  k_with "call ref" =>
    ((k_here; (with_reducible show wpAny _ _ (call (Value.ref 737) _) _ _ _); (first | (refine Calls.useI (foldedp_all (by k_extra "m_s") (by k_extra "m_l") (by assumption) (by assumption)) (by assumption) (by assumption) ?_; k_extra "e_39")| (refine Calls.useI (foldedm_all (by k_extra "m_s") (by k_extra "m_l") (by assumption) (by assumption)) (by assumption) (by assumption) ?_; k_extra "e_39")| (refine Calls.useI (foldedt_all (by k_extra "m_s") (by k_extra "m_l") (by assumption) (by assumption)) (by assumption) (by assumption) ?_; k_extra "e_39")| ((refine Calls.useP (foldedq_all (by k_extra "m_s") (by k_extra "m_l") (by assumption) (by assumption) (by assumption)) (by assumption) (by assumption) ?_; k_extra "e_41"); skip))))
  k_with "call ref" =>
    ((k_here; (with_reducible show wpAny _ _ (call (Value.ref 702) _) _ _ _); k_dflt (first | ((refine Calls.useMade (deck_calls (by k_extra "m_s") (by exact fr_list (by assumption) (by assumption)) (by assumption) (by assumption)) (by assumption) (by assumption) ?_; k_extra "e_40")))))
  k_with "call ref" =>
    ((k_here; (with_reducible show wpAny _ _ (call (Value.ref 747) _) _ _ _); (first | (refine Calls.useI (worth_calls (by k_extra "m_s") (by k_extra "m_l") (by assumption) (by simp only [List.length_map, List.length_range]) (by k_extra "m_01")) (by assumption) (by assumption) ?_; k_extra "e_39"))))
  k_with "call ref" =>
    ((k_here; (with_reducible show wpAny _ _ (call (Value.ref 382) _) _ _ _); (first | (refine Calls.useI (bits_and_calls (by k_extra "m_s") (by k_dflt exact fr_list (by assumption) (by assumption)) (by k_dflt exact NumsAt.keeps (by assumption) (Fr.keep (by assumption)))) (by assumption) (by assumption) ?_; k_extra "e_39"))))
  k_with "call ref" =>
    ((k_here; (with_reducible show wpAny _ _ (call (Value.ref 389) _) _ _ _); (first | (refine Calls.useI (bits_or_calls (by k_extra "m_s") (by k_dflt exact fr_list (by assumption) (by assumption)) (by k_dflt exact NumsAt.keeps (by assumption) (Fr.keep (by assumption)))) (by assumption) (by assumption) ?_; k_extra "e_39"))))
  k_with "call ref" =>
    ((k_here; (with_reducible show wpAny _ _ (call (Value.ref 396) _) _ _ _); (first | (refine Calls.useI (bits_xor_calls (by k_extra "m_s") (by k_dflt exact fr_list (by assumption) (by assumption)) (by k_dflt exact NumsAt.keeps (by assumption) (Fr.keep (by assumption)))) (by assumption) (by assumption) ?_; k_extra "e_39"))))
  k_with "call ref" =>
    ((k_here; (with_reducible show wpAny _ _ (call (Value.ref 323) _) _ _ _); (first | (refine Calls.useE (less_calls (by k_extra "m_s") (by k_dflt exact fr_list (by assumption) (by assumption)) (by k_dflt exact NumsAt.keeps (by assumption) (Fr.keep (by assumption))) (by assumption)) (by assumption) (by assumption) ?_; k_extra "e_38"))))
  k_with "call ref" =>
    ((k_here; (with_reducible show wpAny _ _ (call (Value.ref 330) _) _ _ _); (first | (refine Calls.useE (greater_calls (by k_extra "m_s") (by k_dflt exact fr_list (by assumption) (by assumption)) (by k_dflt exact NumsAt.keeps (by assumption) (Fr.keep (by assumption))) (by assumption)) (by assumption) (by assumption) ?_; k_extra "e_38"))))
  k_with "call ref" =>
    ((k_here; (with_reducible show wpAny _ _ (call (Value.ref 337) _) _ _ _); (first | (refine Calls.useE (at_most_calls (by k_extra "m_s") (by k_dflt exact fr_list (by assumption) (by assumption)) (by k_dflt exact NumsAt.keeps (by assumption) (Fr.keep (by assumption))) (by assumption)) (by assumption) (by assumption) ?_; k_extra "e_38"))))
  k_with "call ref" =>
    ((k_here; (with_reducible show wpAny _ _ (call (Value.ref 344) _) _ _ _); (first | (refine Calls.useE (at_least_calls (by k_extra "m_s") (by k_dflt exact fr_list (by assumption) (by assumption)) (by k_dflt exact NumsAt.keeps (by assumption) (Fr.keep (by assumption))) (by assumption)) (by assumption) (by assumption) ?_; k_extra "e_38"))))
  k_with "call ref" =>
    ((k_here; (with_reducible show wpAny _ _ (call (Value.ref 351) _) _ _ _); (first | (refine Calls.useE (alike_calls (by k_extra "m_s") (by k_dflt exact fr_list (by assumption) (by assumption)) (by k_dflt exact NumsAt.keeps (by assumption) (Fr.keep (by assumption))) (by assumption)) (by assumption) (by assumption) ?_; k_extra "e_38"))))
  k_with "call ref" =>
    ((k_here; (with_reducible show wpAny _ _ (call (Value.ref 363) _) _ _ _); k_dflt (first | ((refine Calls.useP (greatest_calls (by k_extra "m_s") (by exact fr_list (by assumption) (by assumption)) (by exact NumsAt.keeps (by assumption) (Fr.keep (by assumption))) (by first | assumption | exact List.length_pos_iff.mpr (of_decide_eq_false (by assumption))) (by assumption)) (by assumption) (by assumption) ?_; k_extra "e_41"); (first | (k_extra "m_on"; have zq9 := zp'; replace zq9 := epsX zq9; generalize zXc _ _ = zM at zq9; replace zq9 := epsX zq9; generalize zXc _ _ = ztM at zq9; obtain ⟨zv', zq9⟩ := zq9; obtain ⟨zmem, zq9⟩ := zq9; have zext := zq9; clear zq9) | obtain ⟨zM, ztM, zv', zmem, zext⟩ := zp'); subst zv'; have zlp := List.length_pos_of_mem zmem))))
  k_with "call ref" =>
    ((k_here; (with_reducible show wpAny _ _ (call (Value.ref 368) _) _ _ _); k_dflt (first | ((refine Calls.useP (least_of_calls (by k_extra "m_s") (by exact fr_list (by assumption) (by assumption)) (by exact NumsAt.keeps (by assumption) (Fr.keep (by assumption))) (by first | assumption | exact List.length_pos_iff.mpr (of_decide_eq_false (by assumption))) (by assumption)) (by assumption) (by assumption) ?_; k_extra "e_41"); (first | (k_extra "m_on"; have zq9 := zp'; replace zq9 := epsX zq9; generalize zXc _ _ = zM at zq9; replace zq9 := epsX zq9; generalize zXc _ _ = ztM at zq9; obtain ⟨zv', zq9⟩ := zq9; obtain ⟨zmem, zq9⟩ := zq9; have zext := zq9; clear zq9) | obtain ⟨zM, ztM, zv', zmem, zext⟩ := zp'); subst zv'; have zlp := List.length_pos_of_mem zmem))))
  k_with "call ref" =>
    ((k_here; (with_reducible show wpAny _ _ (call (Value.ref 742) _) _ _ _); k_dflt ((refine Calls.useMadeR (by with_reducible assumption) (bits_calls (by k_extra "m_s")) (by assumption) (by assumption) ?_; k_extra "e_42"))))
  k_with "call ref" =>
    ((k_here; (with_reducible show wpAny _ _ (call (Value.ref 290) _) _ (Up _ _ _ _ _) _); k_dflt (refine Raises.pass (remainder_zero (by k_extra "m_s") (by k_extra "m_l") (by exact NumAt.keeps (by assumption) (Fr.keep (by assumption))) (by exact NumAt.keeps (by assumption) (Fr.keep (by assumption)))) (by assumption) (by assumption) (by exact rfl) (by decide) ⟨_, rfl⟩)))
  k_with "call ref" =>
    ((k_here; (with_reducible show wpAny _ _ (call (Value.ref 297) _) _ (Up _ _ _ _ _) _); k_dflt (refine Raises.pass (modulo_zero (by k_extra "m_s") (by k_extra "m_l") (by exact NumAt.keeps (by assumption) (Fr.keep (by assumption))) (by exact NumAt.keeps (by assumption) (Fr.keep (by assumption)))) (by assumption) (by assumption) (by exact rfl) (by decide) ⟨_, rfl⟩)))
  k_with "call ref" =>
    ((k_here; (with_reducible show wpAny _ _ (call (Value.ref 283) _) _ (Up _ _ _ _ _) _); k_dflt (refine Raises.pass (quot_zero (by k_extra "m_s") (by exact fr_list (by assumption) (by assumption)) (by exact NumsAt.keeps (by assumption) (Fr.keep (by assumption))) (by assumption) (by assumption)) (by assumption) (by assumption) (by exact rfl) (by decide) ⟨_, rfl⟩)))
  k_with "call ref" =>
    ((k_here; (with_reducible show wpAny _ _ (call (Value.ref 424) _) _ (Up _ _ _ _ _) _); k_dflt (refine Raises.pass (power_neg (by k_extra "m_s") (by k_extra "m_l") (by exact ⟨_, rfl⟩) (by exact ⟨_, rfl⟩) (by assumption)) (by assumption) (by assumption) (by exact rfl) (by decide) ⟨_, rfl⟩)))
  k_with "call ref" =>
    ((k_here; (with_reducible show wpAny _ _ (call (Value.ref 424) _) _ (Up _ _ _ _ _) _); k_dflt (refine Raises.pass (power_over (by k_extra "m_s") (by k_extra "m_l") (by exact ⟨_, rfl⟩) (by exact ⟨_, rfl⟩)) (by assumption) (by assumption) (by exact rfl) (by decide) ⟨_, rfl⟩)))
  k_with "call ref" =>
    ((k_here; (with_reducible show wpAny _ _ (call (Value.ref 410) _) _ (Up _ _ _ _ _) _); k_dflt (refine Raises.pass (shift_over (by k_extra "m_s") (by k_extra "m_l") (by exact ⟨_, rfl⟩) (by exact ⟨_, rfl⟩) (by decide) (by decide)) (by assumption) (by assumption) (by exact rfl) (by decide) ⟨_, rfl⟩)))
  k_with "call ref" =>
    ((k_here; (with_reducible show wpAny _ _ (call (Value.ref 262) _) _ (Up _ _ _ _ _) _); k_dflt (refine Raises.pass (plus_nil (by k_extra "m_s") (by k_extra "m_l")) (by assumption) (by assumption) (by exact rfl) (by decide) ⟨_, rfl⟩)))
  k_with "call ref" =>
    ((k_here; (with_reducible show wpAny _ _ (call (Value.ref 323) _) _ (Up _ _ _ _ _) _); k_dflt (refine Raises.pass (less_off (by k_extra "m_s") (by k_extra "m_l") (by exact News.get (by assumption) (by k_mem)) (by exact News.get (by assumption) (by k_mem)) (by rfl)) (by assumption) (by assumption) (by exact rfl) (by decide) ⟨_, rfl⟩)))
  k_with "call ref" =>
    ((k_here; (with_reducible show wpAny _ _ (call (Value.ref 709) _) _ _ _); k_dflt ((refine CallsM.use (draw_calls (by with_reducible assumption) (by exact (News.get3 (by assumption) (by k_mem))) (by k_extra "m_pos") (by k_extra "m_log")) (fun _ _ q => q) (by assumption) (by assumption) (by k_updF) (by first | with_reducible assumption | k_extra "m_deckO") ?_; k_extra "e_43"); (try dsimp only at zN'); (first | (k_extra "m_on"; have zq9 := zp'; replace zq9 := epsX zq9; generalize zXc _ _ = zr at zq9; replace zq9 := epsX zq9; generalize zXc _ _ = zrt at zq9; obtain ⟨zv', zq9⟩ := zq9; obtain ⟨zr0, zq9⟩ := zq9; have zr1 := zq9; clear zq9) | obtain ⟨zr, zrt, zv', zr0, zr1⟩ := zp'); subst zv')))
  k_with "call ref" =>
    ((k_here; (with_reducible show wpAny _ _ (call (Value.ref 752) _) _ _ _); k_dflt (k_extra "m_fold")))
  k_with "call ref" =>
    ((k_here; (with_reducible show wpAny _ _ (call (Value.ref 759) _) _ _ _); k_dflt (k_extra "m_pair")))
  k_with "call ref" =>
    ((k_here; (with_reducible show wpAny _ _ (call (Value.ref 764) _) _ _ _); k_dflt (k_extra "m_alone")))
  k_with "call ref" =>
    ((k_here; (with_reducible show wpAny _ _ (call (Value.ref 716) _) _ _ _); k_dflt (k_extra "m_num")))
  k_with "ite" => (k_closed; first | refine ite_pos (by decide) ?_ | refine ite_neg (by decide) ?_)
  k_with "eval Name" => (k_here; name_kind "globalImplicit"; k_dflt (refine nameX_K (by k_asm) (by k_asm) (by k_asm) (by k_is) ?_ (by exact rfl) (by kernel_rfl!)))
  k_with "eval Name" => (k_here; name_kind "local"; k_dflt (refine nameX_L (by k_asm) (by exact rfl) ?_ (by exact rfl) (by kernel_rfl!)))
  k_with "eval Name" => (k_here; name_kind "cell"; k_dflt (refine nameX_C (by k_asm) (by exact rfl) (by k_mem) (by k_asm) ?_ (by exact rfl) (by kernel_rfl!)))
  k_with "eval Name" => (k_here; name_kind "globalImplicit"; refine nameC_K (by k_dflt k_asm) (by k_asm) (by k_dflt k_asm) (by k_is) ?_ (by k_dflt exact rfl) (by kernel_rfl!))
  k_with "eval Name" => (k_here; name_kind "local"; refine nameC_L (by k_dflt k_asm) (by k_dflt exact rfl) ?_ (by k_dflt exact rfl) (by kernel_rfl!))
  k_with "eval Name" => (k_here; name_kind "cell"; refine nameC_C (by k_dflt k_asm) (by k_dflt exact rfl) (by k_dflt k_mem) (by k_dflt k_asm) ?_ (by k_dflt exact rfl) (by kernel_rfl!))
  k_with "eval Name" => (k_here; name_kind "globalImplicit"; name_is_builtin; refine name_B (by k_dflt k_asm) (by k_asm) (by k_dflt k_asm) (by k_is) (by k_dflt boot_fast) (by decide) ?_ (by k_dflt exact rfl) (by kernel_rfl!))
  k_with "eval Name" => (k_here; name_kind "globalImplicit"; refine name_K (by k_dflt k_asm) (by k_asm) (by k_dflt k_asm) (by k_is) ?_ (by k_dflt exact rfl) (by kernel_rfl!))
  k_with "eval Name" => (k_here; name_kind "local"; refine ld (by k_dflt k_asm) (by k_dflt exact rfl) ?_ (by k_dflt exact rfl) (by kernel_rfl!))
  trivial
set_option hygiene true
end Mine.Internal
noncomputable section
namespace Mine.Internal
theorem inst_of {h h' : Heap} {x C dx L : Addr} {m : Str → Option Value} {od : Obj} {sl : Array (Option Value)} (F : Fr h L h' m) (h1 : h.get? x = some (⟨.ref C, some dx, .plain, sl⟩ : Obj)) (h2 : h.get? dx = some od) :
    InstAt h' x ⟨.ref C, some dx, .plain, sl⟩ C (some od) := ⟨F.keep _ _ h1, rfl, rfl, F.keep _ _ h2⟩
theorem is_whole_int {w : World} {h : Heap} (S : Std w h) {x : Int} {t : Tok} : Calls w 400 (.ref 110) [.int x t] h (fun v _ => v = .bool true) := by
 k_with "e_q" =>
  walk_at "m_enter"
  k_steps
 k_extra "e_Q"
theorem is_whole_mark {w : World} {h : Heap} (S : Std w h) {a d : Addr} {es : List DictEntry} {k : Nat} (h1 : h.get? a = some ⟨.ref 155, some d, .plain, #[]⟩) (h2 : h.get? d = some (dictOf es k)) :
    Calls w 400 (.ref 110) [.ref a] h (fun v _ => v = .bool false) := by
 k_with "e_q" =>
  walk_at "m_enter"
  k_steps
 k_extra "e_Q"
theorem fitting {w : World} {h : Heap} (S : Std w h) {x : Int} {t : Tok} (hx : (Builtin.Int.intBits x : Int) ≤ 65536) : Calls w 400 (.ref 248) [.int x t] h (fun v _ => ∃ t, v = .int x t) := by
 k_with "e_q" =>
  walk_at "m_enter"
  k_steps
 k_extra "e_Q"
theorem whole {w : World} {h : Heap} (S : Std w h) {x : Int} {t : Tok} : Calls w 390 (.ref 241) [.int x t] h (fun v _ => ∃ t, v = .int x t) := by
 k_with "e_q" =>
  walk_at "m_enter"
  k_steps
 k_extra "e_Q"
theorem number_calls {w : World} {h : Heap} {v : Value} {n : Int} (S : Std w h) (V : NumAt h v n) : Calls w 390 (.ref 234) [v] h (fun v _ => ∃ t, v = .int n t) := by
  cases V with
  | int n t =>
    walk_at "m_enter"
    k_steps
    | mark h1 h2 h3 h4 =>
    walk_at "m_enter"
    k_steps

end Mine.Internal
namespace Mine.Internal
noncomputable def cutV (x y : Int) : Int := if (decide (x < 0) == decide (y < 0)) = true then Int.fdiv (if x < 0 then -x else x) (if y < 0 then -y else y) else 0 - Int.fdiv (if x < 0 then -x else x) (if y < 0 then -y else y)
theorem pyl_abs {x y : Int} (h : y.natAbs.log2 < 9000) : Builtin.divisionGoesByPylong x (if y < 0 then -y else y) = false := by
  refine PyProof.noPylong_of_log2 ?_
  split
  · rw [Int.natAbs_neg]; exact h
  · exact h
theorem abs_ne {y : Int} (h : y ≠ 0) : (if y < 0 then -y else y) ≠ 0 := by split <;> omega
theorem cut_calls {w : World} {h : Heap} (S : Std w h) {x y : Int} {t u : Tok} (hy : y ≠ 0) (hl : y.natAbs.log2 < 9000) : Calls w 390 (.ref 255) [.int x t, .int y u] h (fun v _ => ∃ t, v = .int (cutV x y) t) := by
 k_with "e_q" =>
  revert S hy hl
  revert w h x y t u
  refine no_implicit_lambda% (epsT6 (ne := ⟨(Mine.Internal.zw, cN, cN, cN, cN, cN)⟩) ?_); generalize pj1 _ = w; generalize pj2 _ = h; generalize pj3 _ = x; generalize pj4 _ = y; generalize pj5 _ = t; generalize pl6 _ = u
  intro S hy hl
  have zOn : ZOn := .mk
  k_with "m_close" => (refine ⟨_, congrArg (fun z => Value.int z _) ?_⟩; simp only [cutV, *]; (first | done | rfl | simp))
  walk_at "m_enter"
  k_steps
 k_extra "e_Q"
theorem lcut_calls {w : World} {h : Heap} (S : Std w h) {x y : Int} {t u : Tok} (hy : y ≠ 0) (hl : y.natAbs.log2 < 9000) : Calls w 390 (.ref 730) [.int x t, .int y u] h (fun v _ => ∃ t, v = .int (cutV x y) t) := by
 k_with "e_q" =>
  revert S hy hl
  revert w h x y t u
  refine no_implicit_lambda% (epsT6 (ne := ⟨(Mine.Internal.zw, cN, cN, cN, cN, cN)⟩) ?_); generalize pj1 _ = w; generalize pj2 _ = h; generalize pj3 _ = x; generalize pj4 _ = y; generalize pj5 _ = t; generalize pl6 _ = u
  intro S hy hl
  have zOn : ZOn := .mk
  walk_at "m_enter"
  k_steps
 k_extra "e_Q"

end Mine.Internal
namespace Mine.Internal

theorem Obj.dict_mapF (o : Obj) (f) : (o.mapFields f).dict = o.dict := by
  unfold Obj.mapFields; split <;> rfl

noncomputable def Sgn (B : Heap) (e d : Addr) (fl : Value) (h : Heap) : Prop :=
  ∃ oe vs, h.get? e = some oe ∧ oe.cls = .ref 38 ∧ oe.dict = some d ∧ oe.data = .fields vs ∧ B.get? e = none ∧ 1 < vs.size ∧
    ((fl = .none ∧ vs[1]? = some .none) ∨ ∃ T oT ts, vs[1]? = some (.ref T) ∧ B.get? T = none ∧ T ≠ e ∧ h.get? T = some oT ∧ oT.data = .fields ts ∧ ts[3]? = some fl)

section
variable {M : Model} {A : Around} {E : Value → Shared → Prop} {s : Shared} {B : Heap} {env : Env} {outer : List Env} {L e d : Addr} {Q : Unit → Shared → Prop}

theorem entryS {oe : Obj} {vs : Array Value} {head : Value} {hadNext : Bool} (hfr : A.frames = some (env :: outer)) (hl : s.heap.FunFrames B (env :: outer)) (hf : env.frame = some L)
    (he : s.heap.get? e = some oe) (hB : B.StaysIn s.heap) (hen : B.get? e = none) (hc : oe.cls = .ref 38) (hdd : oe.dict = some d) (hd : oe.data = .fields vs) (hsz : 1 < vs.size)
    (k : ∀ h', B.StaysIn h' → h'.FunFrames B (env :: outer) → Sgn B e d (rawInt L) h' → s.heap.UpToSlots h' → Q () { s with heap := h' }) :
    wpAny M A (do let a ← frameOf env; let pl ← entryPlaceOf L hadNext; let b ← EntryCells.newEntry head a .none (rawInt L) .none pl; setField (.ref e) 1 b) Q E s := by
  have hene : e ∉ (env :: outer).filterMap (·.frame) := fun hm => by
    obtain ⟨_, o, ho, hnf⟩ := hl.mem hm
    rw [he] at ho; injection ho with ho; subst ho; exact hnf vs hd
  refine wpAny_bind (wpAny_frameOf_fun hfr hl hf fun h₁ hs₁ => ?_)
  refine wpAny_bind (wpAny_entryPlaceOf fun pl hpl => ?_)
  unfold EntryCells.newEntry newFields
  refine wpAny_bind (wpAny_newObj_type ?_ (hpl.sizeOk5 _ _ _ _ _))
  have he₁ : h₁.get? e = some oe := (hs₁.2.1 e hene).trans he
  have kb₁ : B.StaysIn h₁ := fun b o hbo => (hs₁.2.1 b fun hm => by rw [(hl.mem hm).1] at hbo; cases hbo).trans (hB b o hbo)
  generalize hent : ({ cls := .type "traceback", dict := none, data := .fields ([head, .ref L, .none, rawInt L, .none] ++ (if pl.isEmpty then List.replicate 6 Value.none else pl)).toArray } : Obj) = ent
  have he₂ := Heap.get?_push_of_some (h := h₁) ent he₁
  refine wpAny_setField he₂ hd hsz (k _ ?_ ?_ ?_ ?_)
  all_goals
    have hTe : h₁.objs.size ≠ e := Nat.ne_of_gt (Heap.lt_size he₁)
    have hd₃ := Obj.data_mapFields hd (·.setIfInBounds 1 (Value.ref h₁.objs.size))
    have he₃ := Heap.get?_update_self (Obj.mapFields (·.setIfInBounds 1 (Value.ref h₁.objs.size))) he₂ (Obj.isFreed_of_fields hd₃)
    have keep : ∀ b o, b ≠ e → h₁.get? b = some o →
        ((h₁.push ent).update e (Obj.mapFields (·.setIfInBounds 1 (Value.ref h₁.objs.size)))).get? b = some o :=
      fun b o hbe hb => (Heap.get?_update_other _ _ (Ne.symm hbe)).trans (Heap.get?_push_of_some _ hb)
    have noRecord : ∀ b o, s.heap.get? b = some o → (∀ vs, o.data ≠ .fields vs) → b ≠ e := fun b o hb hnf q => by
      rw [q, he] at hb; injection hb with hb; subst hb; exact hnf vs hd
  · exact fun b o hbo => keep b o (fun q => by rw [q, hen] at hbo; cases hbo) (kb₁ b o hbo)
  · exact hl.of_keeps fun b o hb hnf => let ⟨_, hs⟩ := hs₁.2.2 b o hb; ⟨_, keep b _ (noRecord b o hb hnf) hs, rfl⟩
  · have hT₃ : ((h₁.push ent).update e (Obj.mapFields (·.setIfInBounds 1 (Value.ref h₁.objs.size)))).get? h₁.objs.size = some ent :=
      (Heap.get?_update_other _ _ (Ne.symm hTe)).trans (Heap.get?_push_size h₁ (by subst hent; rfl))
    refine ⟨_, _, he₃, (Obj.cls_mapFields _ _).trans hc, (Obj.dict_mapF _ _).trans hdd, hd₃, hen, by simpa using hsz, .inr ⟨h₁.objs.size, ent, _, by simp [hsz], kb₁.fresh, hTe, hT₃, by subst hent; rfl, ?_⟩⟩
    rcases hpl with rfl | ⟨_, _, _, _, _, _, _, rfl⟩ <;> simp
  · exact fun b o hb hnf => let ⟨sl, hs⟩ := hs₁.2.2 b o hb; ⟨sl, keep b _ (noRecord b o hb hnf) hs⟩

theorem noteS (hfr : A.frames = some (env :: outer)) (hl : s.heap.FunFrames B (env :: outer)) (hf : env.frame = some L) (hB : B.StaysIn s.heap) (x : Sgn B e d .none s.heap)
    (k : ∀ h', B.StaysIn h' → h'.FunFrames B (env :: outer) → Sgn B e d (rawInt L) h' → s.heap.UpToSlots h' → Q () { s with heap := h' }) :
    wpAny M A (noteFrame (.ref e) env) Q E s := by
  obtain ⟨oe, vs, he, hc, hdd, hd, hen, hsz, hv | ⟨T, oT, ts, h1, hnT, hTe, hT, hdT, h3⟩⟩ := x
  · unfold noteFrame
    simp only [hf]
    refine wpAny_bind (wpAny_field he hd hv.2 ?_)
    rw [if_neg (by decide)]
    exact entryS hfr hl hf he hB hen hc hdd hd hsz k
  · unfold noteFrame
    simp only [hf]
    refine wpAny_bind (wpAny_field he hd h1 ?_)
    rw [if_pos (show (Value.ref T != Value.none) = true from by simp)]
    refine wpAny_bind (wpAny_field hT hdT h3 ?_)
    rw [if_neg (show ¬ ((Value.none == rawInt L) = true) from by simp [rawInt])]
    refine wpAny_bind (wpAny_setField hT hdT (Array.getElem?_eq_some_iff.mp h3).1 ?_)
    have other : ∀ b, b ≠ T → (s.heap.update T (Obj.mapFields (·.setIfInBounds 3 Value.none))).get? b = s.heap.get? b := fun b hb => Heap.get?_update_other _ _ (Ne.symm hb)
    have noRecord : ∀ b o, s.heap.get? b = some o → (∀ vs, o.data ≠ .fields vs) → b ≠ T := fun b o hb hnf q => by
      rw [q, hT] at hb; injection hb with hb; subst hb; exact hnf ts hdT
    exact entryS hfr (hl.of_keeps fun b o hb hnf => ⟨o, (other b (noRecord b o hb hnf)).trans hb, rfl⟩) hf ((other e (Ne.symm hTe)).trans he)
      (fun b o hbo => (other b fun q => by rw [q, hnT] at hbo; cases hbo).trans (hB b o hbo)) hen hc hdd hd hsz
      fun h' x1 x2 x3 x4 => k h' x1 x2 x3 fun b o hb hnf => x4 b o ((other b (noRecord b o hb hnf)).trans hb) hnf

theorem setS {l : List Env} {fl : Value} (hl : s.heap.FunFrames B l) (hB : B.StaysIn s.heap) (x : Sgn B e d fl s.heap)
    (k : ∀ h', B.StaysIn h' → h'.FunFrames B l → Sgn B e d .none h' → s.heap.UpToSlots h' → Q () { s with heap := h' }) :
    wpAny M A (setFlight (.ref e) none) Q E s := by
  obtain ⟨oe, vs, he, hc, hdd, hd, hen, hsz, hv | ⟨T, oT, ts, h1, hnT, hTe, hT, hdT, h3⟩⟩ := x
  · unfold setFlight
    refine wpAny_bind (wpAny_field he hd hv.2 ?_)
    rw [if_neg (by decide)]
    exact wpAny_pure (k s.heap hB hl ⟨oe, vs, he, hc, hdd, hd, hen, hsz, .inl ⟨rfl, hv.2⟩⟩ (.refl _))
  have hsz3 : 3 < ts.size := (Array.getElem?_eq_some_iff.mp h3).1
  have other : ∀ b, b ≠ T → (s.heap.update T (Obj.mapFields (·.setIfInBounds 3 ((none : Option Addr).elim Value.none fun f => rawInt f)))).get? b = s.heap.get? b :=
    fun b hb => Heap.get?_update_other _ _ (Ne.symm hb)
  have noRecord : ∀ b o, s.heap.get? b = some o → (∀ vs, o.data ≠ .fields vs) → b ≠ T := fun b o hb hnf q => by
    rw [q, hT] at hb; injection hb with hb; subst hb; exact hnf ts hdT
  unfold setFlight
  refine wpAny_bind (wpAny_field he hd h1 ?_)
  rw [if_pos (show (Value.ref T != Value.none) = true from by simp)]
  refine wpAny_setField hT hdT hsz3 (k _ (fun b o hbo => (other b fun q => by rw [q, hnT] at hbo; cases hbo).trans (hB b o hbo))
    (hl.of_keeps fun b o hb hnf => ⟨o, (other b (noRecord b o hb hnf)).trans hb, rfl⟩) ?_ fun b o hb hnf => ⟨o.slots, (other b (noRecord b o hb hnf)).trans hb⟩)
  exact ⟨oe, vs, (other e (Ne.symm hTe)).trans he, hc, hdd, hd, hen, hsz, .inr ⟨T, _, _, h1, hnT, hTe, Heap.get?_update_self _ hT (Obj.isFreed_of_fields (Obj.data_mapFields hdT _)), Obj.data_mapFields hdT _, by simp [hsz3]⟩⟩

end

end Mine.Internal
namespace Mine.Internal
open Sem (wp)
open Builtin Builtin.ObjectAttr

structure Sig (h : Heap) : Prop where
  C : ∃ nm q sn sub ab col dd k0 k1 k2 k3 k5, h.get? 38 = some (excClassObj nm q 38 37 [.type "Exception"] [.type "Exception", .type "BaseException", .type "object"] true sn sub ab col dd k0 k1 k2 k3 k5 "Exception.__new__")
  N : h.Ns 37 (h.nsMap 37)
  init : h.nsMap 37 "__init__" = some (.ref 35)
  sa : h.nsMap 37 "__setattr__" = none
  ga : h.nsMap 37 "__getattribute__" = none
  gb : h.nsMap 37 "__getattr__" = none
  sy : h.nsMap 37 "symbol" = none
  da : h.nsMap 37 "data" = none
theorem sig_of {w : World} {h : Heap} (S : Std w h) : Sig h := by
  have e := S.X 37 _ rfl
  have ok : h.isNs 37 = true := by
    unfold Heap.isNs; rw [e]; dsimp only; rw [← Array.all_toList]; rfl
  have F : ∀ n, h.nsMap 37 n = _ := fun n => by unfold Heap.nsMap; rw [e]
  refine ⟨⟨_, _, _, _, _, _, _, _, _, _, _, _, S.X 38 _ rfl⟩, .of_isNs ok, ?_, ?_, ?_, ?_, ?_, ?_⟩
  all_goals (rw [F]; dsimp only; unfold nsFind findBy; rw [← Array.find?_toList]; rfl)

section
variable {prog : Program} {w : World} {A : Around} {E : Value → Shared → Prop} {h : Heap} {g : Array GenState} {d : Drawn} {t : Nat} {os : OsState}
variable {nm q : Str} {C N x : Addr} {bs bm : List Value} {sn : List Str} {sub : List Value} {ab : Bool} {col : Option Bool} {dd : Option Addr} {k0 k1 k2 k3 k5 : Option Value} {B newId sa owner : String}
  {mN : Str → Option Value} {name : Str} {v : Value} {o : Obj}

theorem store0_entry {tk : Tok} {Q : Fin → Shared → Prop} (SF : StoreFacts B bm sa owner)
    (hC : h.get? C = some (excClassObj nm q C N bs bm true sn sub ab col dd k0 k1 k2 k3 k5 newId)) (hn : h.Ns N mN) (hna : mN name = none)
    (hB : typeLookup (.type B) name = pure none) (hx : h.get? x = some o) (hc : o.cls = .ref C) (hnc : ∀ c, o.data ≠ .cls c) (hdn : o.dict = none)
    (hq : ∀ h' tk' dx, (∀ b ob, b ≠ x → h.get? b = some ob → h'.get? b = some ob) → h.get? dx = none → dx ≠ x → h'.get? x = some { o with dict := some dx } →
      h'.Ns1 dx (fun y => if y = name then some v else none) → Q (.done (.ret .none)) ⟨h', g, d, tk', os⟩) :
    wpAny (model prog w) A (Builtin.«object.__setattr__» ⟨[.ref x, .str name tk, v], []⟩) Q E ⟨h, g, d, t, os⟩ := by
  have hpass := SF.passes (.ref x)
  unfold Builtin.«object.__setattr__»
  repeat (first | rw [refuse_eq] | (rw [refuseLoop_ref, hpass]) | (with_reducible refine wpAny_loadPart_at hx ?_; rw [hc]) | with_reducible refine wpAny_mroOf_exc hC ?_ | (with_reducible refine wpAny_typeLookup_exc hC hn SF.mro hB ?_; rw [hna]) | wp_step)
  rw [hdn, if_neg (by simp [typeHasDict])]
  split
  · rename_i hcd
    cases hcd
  split
  · rename_i c hcd
    exact absurd hcd (hnc c)
  have hx₁ : (h.push { cls := .type "dict", data := .dict #[] }).get? x = some o := Heap.get?_push_of_some _ hx
  have hxs : x ≠ h.objs.size := Nat.ne_of_lt (Heap.lt_size hx)
  refine wpAny_bind (wpAny_alloc' ?_)
  refine wpAny_bind (wpAny_update' hx₁ ?_)
  refine wpAny_pure ?_
  have hgd : ((h.push { cls := .type "dict", data := .dict #[] }).update x fun o => { cls := o.cls, dict := some h.objs.size, data := o.data, slots := o.slots }).get? h.objs.size
      = some { cls := .type "dict", data := .dict #[] } :=
    (Heap.get?_update_ne _ _ _ _ hxs.symm).trans (Heap.get?_push_at rfl rfl)
  have hnd : ((h.push { cls := .type "dict", data := .dict #[] }).update x fun o => { cls := o.cls, dict := some h.objs.size, data := o.data, slots := o.slots }).Ns h.objs.size (fun _ => none) :=
    ⟨_, #[], _, hgd, rfl, fun e he => absurd he (by simp), fun _ => rfl⟩
  show wpAny _ _ (storeInDict h.objs.size (.str name tk) name v) _ _ _
  unfold storeInDict newKeyGuard
  refine wpAny_bind (wpAny_pure (wpAny_bind (wpAny_nsSet1 (Heap.Ns1.of_empty hnd) fun h' hn' hs => ?_)))
  obtain ⟨oD, esD, epD, hoD, hdD, hcD⟩ := hn'.count (Within.cons name v Within.nil)
  refine wpAny_bind (wpAny_lookBehind hoD (by rw [hdD]; exact pastItsLine_dict (Nat.le_trans hcD (by rw [List.length_cons, List.length_nil, sizeLine_eq]; lia))) ?_)
  wp_walk
  have hx' : h'.get? x = some { cls := o.cls, dict := some h.objs.size, data := o.data, slots := o.slots } := by
    refine (hs.2 x hxs).trans (Heap.get?_update_self _ hx₁ ?_)
    have hfr := (Heap.get?_some_iff.mp hx).2
    obtain ⟨oc, od, odt, osl⟩ := o
    cases odt <;> first | rfl | exact hfr
  refine hq h' _ h.objs.size (fun b ob hbx hb => ?_) (Heap.get?_none_of_le (Nat.le_refl _)) hxs.symm hx' ?_
  · exact (hs.2 b (Nat.ne_of_lt (Heap.lt_size hb))).trans ((Heap.get?_update_ne _ _ _ _ hbx).trans (Heap.get?_push_of_some _ hb))
  · obtain ⟨o', es, ep, e1, e2, e3, eu, e4⟩ := hn'
    exact ⟨o', es, ep, e1, e2, e3, eu, fun y => by rw [e4 y]⟩

theorem store0_attr {Q : Unit → Shared → Prop} (SF : StoreFacts B bm sa owner)
    (hC : h.get? C = some (excClassObj nm q C N bs bm true sn sub ab col dd k0 k1 k2 k3 k5 newId)) (hn : h.Ns N mN) (hns : mN "__setattr__" = none) (hna : mN name = none)
    (hB : typeLookup (.type B) name = pure none) (hx : h.get? x = some o) (hc : o.cls = .ref C) (hnc : ∀ c, o.data ≠ .cls c) (hdn : o.dict = none)
    (hq : ∀ h' tk' dx, (∀ b ob, b ≠ x → h.get? b = some ob → h'.get? b = some ob) → h.get? dx = none → dx ≠ x → h'.get? x = some { o with dict := some dx } →
      h'.Ns1 dx (fun y => if y = name then some v else none) → Q () ⟨h', g, d, tk', os⟩) :
    wpAny (model prog w) A (setAttr (.ref x) name v) Q E ⟨h, g, d, t, os⟩ := by
  have f3 := SF.slot.bind (.ref x)
  unfold setAttr callSpecial? specialOf
  repeat (any_goals (first | assumption | (with_reducible refine wpAny_loadPart_at hx ?_; rw [hc]) | (with_reducible refine wpAny_typeLookup_exc hC hn SF.mro SF.slot.lookup ?_; rw [hns]) | wp_step))
  refine codeAny_call_builtin SF.slot.plain SF.entry (wpAny_check_sa SF hC hx hc (store0_entry SF hC hn hna hB hx hc hnc hdn fun h' tk' dx a1 a2 a3 a4 a5 => ?_))
  repeat (any_goals (first | assumption | wp_step))
  exact hq h' tk' dx a1 a2 a3 a4 a5

end
namespace load_exc_e
noncomputable def zzQ (prog : Program) (w : World) (A : Around) (E : Value → Shared → Prop) (h : Heap) (g : Array GenState) (d : Drawn) (t : Nat) (os : OsState) (nm : Str) (q : Str) (C : Addr) (N : Addr) (x : Addr) (bs : List Value) (sn : List Str) (sub : List Value) (ab : Bool) (col : Option Bool) (dd : Option Addr) (k0 : Option Value) (k1 : Option Value) (k2 : Option Value) (k3 : Option Value) (k5 : Option Value) (B : String) (newId : String) (mN : Str → Option Value) (name : Str) (v : Value) (o : Obj) (dx : Addr) (m : Str → Option Value) (vs : Array Value) (bmB : List Value) (expr : Bool) (Q : Value → Shared → Prop) : Prop := ∀ FB : ExcAttrBase B bmB, ∀ hC : h.get? C = some (excClassObj nm q C N bs bmB true sn sub ab col dd k0 k1 k2 k3 k5 newId), ∀ hn : h.Ns N mN, ∀ hga : mN "__getattribute__" = none, ∀ hgb : mN "__getattr__" = none, ∀ hna : mN name = none, ∀ hB : typeLookup (.type B) name = pure none, ∀ hx : h.get? x = some o, ∀ hc : o.cls = .ref C, ∀ hd : o.data = .fields vs, ∀ hdn : o.dict = some dx, ∀ hm : h.Ns dx m, ∀ hv : m name = some v, ∀ hh : handedOut v = pure v, ∀ hq : Q v ⟨h, g, d, t + 1, os⟩, wpAny (model prog w) A (getAttr (.ref x) name expr) Q E ⟨h, g, d, t, os⟩
noncomputable abbrev zzT : Type := Program × World × Around × (Value → Shared → Prop) × Heap × (Array GenState) × Drawn × Nat × OsState × Str × Str × Addr × Addr × Addr × (List Value) × (List Str) × (List Value) × Bool × (Option Bool) × (Option Addr) × (Option Value) × (Option Value) × (Option Value) × (Option Value) × (Option Value) × String × String × (Str → Option Value) × Str × Value × Obj × Addr × (Str → Option Value) × (Array Value) × (List Value) × Bool × (Value → Shared → Prop)
noncomputable def zzS (z : zzT) : Prop := zzQ z.1 z.2.1 z.2.2.1 z.2.2.2.1 z.2.2.2.2.1 z.2.2.2.2.2.1 z.2.2.2.2.2.2.1 z.2.2.2.2.2.2.2.1 z.2.2.2.2.2.2.2.2.1 z.2.2.2.2.2.2.2.2.2.1 z.2.2.2.2.2.2.2.2.2.2.1 z.2.2.2.2.2.2.2.2.2.2.2.1 z.2.2.2.2.2.2.2.2.2.2.2.2.1 z.2.2.2.2.2.2.2.2.2.2.2.2.2.1 z.2.2.2.2.2.2.2.2.2.2.2.2.2.2.1 z.2.2.2.2.2.2.2.2.2.2.2.2.2.2.2.1 z.2.2.2.2.2.2.2.2.2.2.2.2.2.2.2.2.1 z.2.2.2.2.2.2.2.2.2.2.2.2.2.2.2.2.2.1 z.2.2.2.2.2.2.2.2.2.2.2.2.2.2.2.2.2.2.1 z.2.2.2.2.2.2.2.2.2.2.2.2.2.2.2.2.2.2.2.1 z.2.2.2.2.2.2.2.2.2.2.2.2.2.2.2.2.2.2.2.2.1 z.2.2.2.2.2.2.2.2.2.2.2.2.2.2.2.2.2.2.2.2.2.1 z.2.2.2.2.2.2.2.2.2.2.2.2.2.2.2.2.2.2.2.2.2.2.1 z.2.2.2.2.2.2.2.2.2.2.2.2.2.2.2.2.2.2.2.2.2.2.2.1 z.2.2.2.2.2.2.2.2.2.2.2.2.2.2.2.2.2.2.2.2.2.2.2.2.1 z.2.2.2.2.2.2.2.2.2.2.2.2.2.2.2.2.2.2.2.2.2.2.2.2.2.1 z.2.2.2.2.2.2.2.2.2.2.2.2.2.2.2.2.2.2.2.2.2.2.2.2.2.2.1 z.2.2.2.2.2.2.2.2.2.2.2.2.2.2.2.2.2.2.2.2.2.2.2.2.2.2.2.1 z.2.2.2.2.2.2.2.2.2.2.2.2.2.2.2.2.2.2.2.2.2.2.2.2.2.2.2.2.1 z.2.2.2.2.2.2.2.2.2.2.2.2.2.2.2.2.2.2.2.2.2.2.2.2.2.2.2.2.2.1 z.2.2.2.2.2.2.2.2.2.2.2.2.2.2.2.2.2.2.2.2.2.2.2.2.2.2.2.2.2.2.1 z.2.2.2.2.2.2.2.2.2.2.2.2.2.2.2.2.2.2.2.2.2.2.2.2.2.2.2.2.2.2.2.1 z.2.2.2.2.2.2.2.2.2.2.2.2.2.2.2.2.2.2.2.2.2.2.2.2.2.2.2.2.2.2.2.2.1 z.2.2.2.2.2.2.2.2.2.2.2.2.2.2.2.2.2.2.2.2.2.2.2.2.2.2.2.2.2.2.2.2.2.1 z.2.2.2.2.2.2.2.2.2.2.2.2.2.2.2.2.2.2.2.2.2.2.2.2.2.2.2.2.2.2.2.2.2.2.1 z.2.2.2.2.2.2.2.2.2.2.2.2.2.2.2.2.2.2.2.2.2.2.2.2.2.2.2.2.2.2.2.2.2.2.2.1 z.2.2.2.2.2.2.2.2.2.2.2.2.2.2.2.2.2.2.2.2.2.2.2.2.2.2.2.2.2.2.2.2.2.2.2.2
noncomputable def zzc : zzT := @Classical.epsilon zzT ⟨(cN, zw, zA, cN, cN, cN, zd, cN, cN, cN, cN, cN, cN, cN, cN, cN, cN, cN, cN, cN, cN, cN, cN, cN, cN, cN, cN, cN, cN, cN, cN, cN, cN, cN, cN, cN, cN)⟩ fun z => ¬ zzS z
theorem zzcore : zzS zzc := by
  show zzQ _ _ _ _ _ _ _ _ _ _ _ _ _ _ _ _ _ _ _ _ _ _ _ _ _ _ _ _ _ _ _ _ _ _ _ _ _
  generalize zzc.1 = prog; generalize zzc.2.1 = w; generalize zzc.2.2.1 = A; generalize zzc.2.2.2.1 = E; generalize zzc.2.2.2.2.1 = h; generalize zzc.2.2.2.2.2.1 = g; generalize zzc.2.2.2.2.2.2.1 = d; generalize zzc.2.2.2.2.2.2.2.1 = t; generalize zzc.2.2.2.2.2.2.2.2.1 = os; generalize zzc.2.2.2.2.2.2.2.2.2.1 = nm; generalize zzc.2.2.2.2.2.2.2.2.2.2.1 = q; generalize zzc.2.2.2.2.2.2.2.2.2.2.2.1 = C; generalize zzc.2.2.2.2.2.2.2.2.2.2.2.2.1 = N; generalize zzc.2.2.2.2.2.2.2.2.2.2.2.2.2.1 = x; generalize zzc.2.2.2.2.2.2.2.2.2.2.2.2.2.2.1 = bs; generalize zzc.2.2.2.2.2.2.2.2.2.2.2.2.2.2.2.1 = sn; generalize zzc.2.2.2.2.2.2.2.2.2.2.2.2.2.2.2.2.1 = sub; generalize zzc.2.2.2.2.2.2.2.2.2.2.2.2.2.2.2.2.2.1 = ab; generalize zzc.2.2.2.2.2.2.2.2.2.2.2.2.2.2.2.2.2.2.1 = col; generalize zzc.2.2.2.2.2.2.2.2.2.2.2.2.2.2.2.2.2.2.2.1 = dd; generalize zzc.2.2.2.2.2.2.2.2.2.2.2.2.2.2.2.2.2.2.2.2.1 = k0; generalize zzc.2.2.2.2.2.2.2.2.2.2.2.2.2.2.2.2.2.2.2.2.2.1 = k1; generalize zzc.2.2.2.2.2.2.2.2.2.2.2.2.2.2.2.2.2.2.2.2.2.2.1 = k2; generalize zzc.2.2.2.2.2.2.2.2.2.2.2.2.2.2.2.2.2.2.2.2.2.2.2.1 = k3; generalize zzc.2.2.2.2.2.2.2.2.2.2.2.2.2.2.2.2.2.2.2.2.2.2.2.2.1 = k5; generalize zzc.2.2.2.2.2.2.2.2.2.2.2.2.2.2.2.2.2.2.2.2.2.2.2.2.2.1 = B; generalize zzc.2.2.2.2.2.2.2.2.2.2.2.2.2.2.2.2.2.2.2.2.2.2.2.2.2.2.1 = newId; generalize zzc.2.2.2.2.2.2.2.2.2.2.2.2.2.2.2.2.2.2.2.2.2.2.2.2.2.2.2.1 = mN; generalize zzc.2.2.2.2.2.2.2.2.2.2.2.2.2.2.2.2.2.2.2.2.2.2.2.2.2.2.2.2.1 = name; generalize zzc.2.2.2.2.2.2.2.2.2.2.2.2.2.2.2.2.2.2.2.2.2.2.2.2.2.2.2.2.2.1 = v; generalize zzc.2.2.2.2.2.2.2.2.2.2.2.2.2.2.2.2.2.2.2.2.2.2.2.2.2.2.2.2.2.2.1 = o; generalize zzc.2.2.2.2.2.2.2.2.2.2.2.2.2.2.2.2.2.2.2.2.2.2.2.2.2.2.2.2.2.2.2.1 = dx; generalize zzc.2.2.2.2.2.2.2.2.2.2.2.2.2.2.2.2.2.2.2.2.2.2.2.2.2.2.2.2.2.2.2.2.1 = m; generalize zzc.2.2.2.2.2.2.2.2.2.2.2.2.2.2.2.2.2.2.2.2.2.2.2.2.2.2.2.2.2.2.2.2.2.1 = vs; generalize zzc.2.2.2.2.2.2.2.2.2.2.2.2.2.2.2.2.2.2.2.2.2.2.2.2.2.2.2.2.2.2.2.2.2.2.1 = bmB; generalize zzc.2.2.2.2.2.2.2.2.2.2.2.2.2.2.2.2.2.2.2.2.2.2.2.2.2.2.2.2.2.2.2.2.2.2.2.1 = expr; generalize zzc.2.2.2.2.2.2.2.2.2.2.2.2.2.2.2.2.2.2.2.2.2.2.2.2.2.2.2.2.2.2.2.2.2.2.2.2 = Q
  intro FB hC hn hga hgb hna hB hx hc hd hdn hm hv hh hq
  have f3 := FB.ga.bind (.ref x)
  have hx0 : (expr && onTheHeap (Value.builtin "BaseException.__getattribute__")) = false := by cases expr <;> rfl
  have hx2 : (Value.builtin "BaseException.__getattribute__" == Value.builtin "object.__getattribute__") = false := by decide +kernel
  have hx1 : (onTheHeap (Value.ref C) && Value.builtin "BaseException.__getattribute__" == Value.builtin "object.__getattribute__") = false := by rw [hx2]; rfl
  have hnc : ∀ c, o.data ≠ .cls c := fun c q => by rw [hd] at q; cases q
  have hcB : (Value.ref C :: bmB).contains (.type "BaseException") = true := by rw [List.contains_cons, FB.hasBase]; simp
  have hk : builtinKind "BaseException.__getattribute__" = some .slot := by decide +kernel
  have hsplit : splitId "BaseException.__getattribute__" = some ("BaseException", "__getattribute__") := by decide +kernel
  have ha := F.args_bexc_ga (.ref x) (.str name t)
  unfold getAttr getAttrBy
  repeat (first | (with_reducible refine wpAny_loadPart_at hx ?_; rw [hc]) | (with_reducible refine wpAny_typeLookup_exc hC hn FB.mro FB.ga.lookup ?_; rw [hga]) | (with_reducible refine wpAny_typeLookup_exc hC hn FB.mro FB.noGetattr ?_; rw [hgb]) | wp_step)
  refine codeAny_call_builtin FB.ga.plain F.entry_bexc_ga ?_
  simp only [checkBuiltinCall, hk, hsplit]
  refine wpAny_bind ?_
  unfold isInstance
  repeat (first | (with_reducible refine wpAny_loadPart_at hx ?_; rw [hc]) | (with_reducible refine wpAny_isSubtype_exc hC ?_; rw [hcB]) | (with_reducible refine wpAny_typeLookup_exc hC hn FB.mro hB ?_; rw [hna]) | wp_step)
  split
  · rename_i c hcd
    exact absurd hcd (hnc c)
  unfold instanceDict
  repeat (first | (with_reducible refine wpAny_loadPart_at hx ?_; rw [hc]) | with_reducible refine wpAny_loadPart_at hC ?_ | wp_step)
  rw [hdn]
  repeat (first | (with_reducible refine wpAny_nsGet hm ?_; rw [hv]) | wp_step)
  exact hq
end load_exc_e
theorem load_exc {prog : Program} {w : World} {A : Around} {E : Value → Shared → Prop} {h : Heap} {g : Array GenState} {d : Drawn} {t : Nat} {os : OsState} {nm : Str} {q : Str} {C : Addr} {N : Addr} {x : Addr} {bs : List Value} {sn : List Str} {sub : List Value} {ab : Bool} {col : Option Bool} {dd : Option Addr} {k0 : Option Value} {k1 : Option Value} {k2 : Option Value} {k3 : Option Value} {k5 : Option Value} {B : String} {newId : String} {mN : Str → Option Value} {name : Str} {v : Value} {o : Obj} {dx : Addr} {m : Str → Option Value} {vs : Array Value} {bmB : List Value} {expr : Bool} {Q : Value → Shared → Prop} (FB : ExcAttrBase B bmB)
    (hC : h.get? C = some (excClassObj nm q C N bs bmB true sn sub ab col dd k0 k1 k2 k3 k5 newId)) (hn : h.Ns N mN) (hga : mN "__getattribute__" = none) (hgb : mN "__getattr__" = none) (hna : mN name = none)
    (hB : typeLookup (.type B) name = pure none) (hx : h.get? x = some o) (hc : o.cls = .ref C) (hd : o.data = .fields vs) (hdn : o.dict = some dx) (hm : h.Ns dx m) (hv : m name = some v) (hh : handedOut v = pure v)
    (hq : Q v ⟨h, g, d, t + 1, os⟩) : wpAny (model prog w) A (getAttr (.ref x) name expr) Q E ⟨h, g, d, t, os⟩ := epsU (P := load_exc_e.zzS) (by with_unfolding_all exact load_exc_e.zzcore) (prog, w, A, E, h, g, d, t, os, nm, q, C, N, x, bs, sn, sub, ab, col, dd, k0, k1, k2, k3, k5, B, newId, mN, name, v, o, dx, m, vs, bmB, expr, Q) FB hC hn hga hgb hna hB hx hc hd hdn hm hv hh hq
section
variable {prog : Program} {w : World} {A : Around} {E : Value → Shared → Prop} {h : Heap} {g : Array GenState} {d : Drawn} {t : Nat} {os : OsState}
variable {nm q : Str} {C N x : Addr} {bs bm : List Value} {sn : List Str} {sub : List Value} {ab : Bool} {col : Option Bool} {dd : Option Addr} {k0 k1 k2 k3 k5 : Option Value} {B newId sa owner : String}
  {mN : Str → Option Value} {name : Str} {v : Value} {o : Obj}

end

end Mine.Internal
namespace Mine.Internal
section
variable {w : World} {A : Around} {s : Shared} {E : Value → Shared → Prop} {Q : Value → Shared → Prop}
theorem enter {f : Addr} {args : List Value} 
    {name qual : Str} {params : Arguments} {body : List Stmt} {scope : Scope} {dV kV doc pm cdv ct oc : Value} {an od : Option Addr} {osl : Array (Option Value)} {binds : List (Str × Value)}
    (S : Std w s.heap) (ho : (Mine.hd.heap_39 w.params).lookup f = some ⟨oc, od, .func (fnOf name qual params body scope dV kV doc pm an cdv ct), osl⟩)
    (hcd : codeIn (Mine.hd.heap_39 w.params) cdv qual = true) (hroom : A.depth < recursionLimit)
    (hbind : ∀ s, BindsTo s (fnOf name qual params body scope dV kV doc pm an cdv ct) ⟨args, []⟩ binds) (hloc : ∀ y ∈ binds, scope.names.lookup y.1 = some .local)
    (hb : ∀ (L' : Addr) (h₁ : Heap) (tk : Nat), Fr s.heap L' h₁ (fun y => binds.reverse.lookup y) → 
      wpAny (model Challenge.rw_np0089_01.row.prog w) (A.deeper (envOf qual scope L' f cdv)) (execs body (envOf qual scope L' f cdv))
        (fun fl s' => Q (flv fl) s')
        (fun e s' => wpAny (model Challenge.rw_np0089_01.row.prog w) (A.deeper (envOf qual scope L' f cdv)) (leaving (envOf qual scope L' f cdv) e) (fun _ s'' => E e s'') (fun e' s'' => E e' s'') s') { s with heap := h₁, toks := tk })
    (hco : scope.isCoroutine = false) (hgen : scope.isGenerator = false) (hk : scope.kind = .function)
    (hcell : ∀ x ∈ scope.names, x.2 ≠ .cell) : wpAny (model Challenge.rw_np0089_01.row.prog w) A (call (.ref f) args) Q E s := by
  obtain ⟨X, p, l, me, mg, mb, T⟩ := S
  refine wpAny_call ?_
  exact codeAny_call_def (fd := fnOf name qual params body scope dV kV doc pm an cdv ct) (body := body) (binds := binds) hroom (X _ _ ho) rfl T.nolimit (codeRec_of X hcd) rfl (hbind s) hcell hloc
    (fun h₁ hns hk₁ => wpAny_mono (hb s.heap.objs.size h₁ _ ⟨hns, hk₁, Nat.le_refl _⟩) (fun fl s' r => r) fun _ _ x => x) hco hgen hk
end
theorem sy_none : typeLookup (.type "Exception") "symbol" = pure none := by rw [typeLookup_type, builtinLookup_eq_fast]; kernel_rfl
theorem da_none : typeLookup (.type "Exception") "data" = pure none := by rw [typeLookup_type, builtinLookup_eq_fast]; kernel_rfl
theorem Fr.but {g h h' : Heap} {L e : Addr} {m : Str → Option Value} (F : Fr g L h m) (k : ∀ b ob, b ≠ e → h.get? b = some ob → h'.get? b = some ob) (n : L ≠ e) (hen : g.get? e = none) : Fr g L h' m := by
  obtain ⟨⟨o, es, ep, e1, r⟩, kk, a⟩ := F
  exact ⟨⟨o, es, ep, k _ _ n e1, r⟩, fun b ob q => k b ob (fun x => by rw [x, hen] at q; cases q) (kk b ob q), a⟩
theorem Fr.but2 {g h h' : Heap} {L e d : Addr} {m : Str → Option Value} (F : Fr g L h m) (k : ∀ b ob, b ≠ e → b ≠ d → h.get? b = some ob → h'.get? b = some ob) (n : L ≠ e) (n2 : L ≠ d) (hen : g.get? e = none) (hd : g.get? d = none) : Fr g L h' m := by
  obtain ⟨⟨o, es, ep, e1, r⟩, kk, a⟩ := F
  exact ⟨⟨o, es, ep, k _ _ n n2 e1, r⟩, fun b ob q => k b ob (fun x => by rw [x, hen] at q; cases q) (fun x => by rw [x, hd] at q; cases q) (kk b ob q), a⟩
noncomputable def NewExc (h : Heap) (e t : Addr) : Prop := h.get? e = some { cls := .ref 38, data := .fields #[.ref t, .none, .none, .none, .bool false, .none] }

namespace init_calls_e
noncomputable def zzQ (w : World) (A : Around) (s : Shared) (E : Value → Shared → Prop) (Q : Value → Shared → Prop) (g : Heap) (e : Addr) (t : Addr) (sym : Str) (tk0 : Tok) (dat : Value) : Prop := ∀ S : Std w g, ∀ hg : g.StaysIn s.heap, ∀ hen : g.get? e = none, ∀ he : NewExc s.heap e t, ∀ hsz : g.objs.size ≤ s.heap.objs.size, ∀ hd : A.depth < recursionLimit, ∀ k : ∀ h' tk' d, g.StaysIn h' → g.get? d = none → d ≠ e → h'.get? e = some { cls := .ref 38, dict := some d, data := .fields #[.ref t, .none, .none, .none, .bool false, .none] } →
      (∃ m, h'.Ns d m ∧ m "symbol" = some (.str sym tk0)) → Q .none { s with heap := h', toks := tk' }, wpAny (model Challenge.rw_np0089_01.row.prog w) A (call (.ref 35) [.ref e, .str sym tk0, dat]) Q E s
noncomputable abbrev zzT : Type := World × Around × Shared × (Value → Shared → Prop) × (Value → Shared → Prop) × Heap × Addr × Addr × Str × Tok × Value
noncomputable def zzS (z : zzT) : Prop := zzQ z.1 z.2.1 z.2.2.1 z.2.2.2.1 z.2.2.2.2.1 z.2.2.2.2.2.1 z.2.2.2.2.2.2.1 z.2.2.2.2.2.2.2.1 z.2.2.2.2.2.2.2.2.1 z.2.2.2.2.2.2.2.2.2.1 z.2.2.2.2.2.2.2.2.2.2
noncomputable def zzc : zzT := @Classical.epsilon zzT ⟨(zw, zA, zs, cN, cN, cN, cN, cN, cN, cN, cN)⟩ fun z => ¬ zzS z
theorem zzcore : zzS zzc := by
 k_with "e_q" =>
  show zzQ _ _ _ _ _ _ _ _ _ _ _
  generalize zzc.1 = w; generalize zzc.2.1 = A; generalize zzc.2.2.1 = s; generalize zzc.2.2.2.1 = E; generalize zzc.2.2.2.2.1 = Q; generalize zzc.2.2.2.2.2.1 = g; generalize zzc.2.2.2.2.2.2.1 = e; generalize zzc.2.2.2.2.2.2.2.1 = t; generalize zzc.2.2.2.2.2.2.2.2.1 = sym; generalize zzc.2.2.2.2.2.2.2.2.2.1 = tk0; generalize zzc.2.2.2.2.2.2.2.2.2.2 = dat
  intro S hg hen he hsz hd k
  have Sh : Std w s.heap := S.keeps hg
  have zX := Std.X S; obtain ⟨zp, zlo, zme, zmg, zmb, zT⟩ := Std.T S
  k_dflt (refine enter Sh (by k_is) (by k_is) hd (by exact fun _ => BindsTo.of_eq rfl) (by exact locs rfl) ?_ (by exact rfl) (by exact rfl) (by exact rfl) (by decide))
  intro zL' zh' ztk zF0
  have zF' : Fr g zL' zh' _ := ⟨zF0.ns, fun b o q => zF0.keep b o (hg b o q), Nat.le_trans hsz zF0.above⟩
  have zN' : News g zL' zh' [] := fun _ h => nomatch h
  have he1 : NewExc zh' e t := zF0.keep _ _ he
  clear zF0
  have nL : zL' ≠ e := fun q => by obtain ⟨o, es, ep, e1, e2, _⟩ := zF'.ns; rw [q, he1] at e1; cases e1; cases e2
  (try dsimp only); (try k_fold)
  k_steps
  have Sg := sig_of (S.keeps zF'.keep)
  obtain ⟨nm, q, sn, sub, ab, col, dd, c0, c1, c2, c3, c5, hC⟩ := Sg.C
  refine store0_attr F.store_Exception hC Sg.N Sg.sa Sg.sy sy_none he1 rfl (fun c q => nomatch q) rfl fun h1 tk1 dx a1 a2 a3 a4 a5 => ?_
  have zF1 := Fr.but zF' a1 nL hen
  clear hC
  (try dsimp only)
  (try k_fold)
  have zN1 : News g zL' h1 [] := fun _ h => nomatch h
  have hgd : g.get? dx = none := by
    cases q : g.get? dx with
    | none => rfl
    | some o => rw [zF'.keep _ _ q] at a2; cases a2
  have nLd : zL' ≠ dx := fun q => by obtain ⟨o, es, ep, e1, e2, _⟩ := zF'.ns; rw [q, a2] at e1; cases e1
  clear zF'
  k_steps
  have Sg1 := sig_of (S.keeps zF1.keep)
  obtain ⟨nm, q, sn, sub, ab, col, dd, c0, c1, c2, c3, c5, hC⟩ := Sg1.C
  have I1 : h1.Inst e 38 _ := ⟨_, a4, rfl, fun c q => (by cases q), Or.inr ⟨dx, rfl, a3, a5⟩⟩
  refine store_attr F.store_Exception hC Sg1.N Sg1.sa Sg1.da da_none (fun q => by rw [q] at hen; rw [S.X 38 _ rfl] at hen; cases hen) I1 (fun h2 tk2 I2 b1 b2 => ?_) (ns := [Str.ofString "symbol"]) (fun n q => ?_)
  · have kb : ∀ b o, b ≠ e → b ≠ dx → h1.get? b = some o → h2.get? b = some o := fun b o n1 n2 q => b1 b o n1 (fun o₀ d' r r' => by rw [a4] at r; cases r; cases r'; exact n2) q
    have zF2 := Fr.but2 zF1 kb nL nLd hen hgd
    obtain ⟨o2, g1, g2, g3, g4⟩ := I2
    have g1' : h2.get? e = some { cls := .ref 38, dict := some dx, data := .fields #[.ref t, .none, .none, .none, .bool false, .none] } := by
      obtain ⟨o₁, r1, r2, r3, r4, r5⟩ := b2 _ a4
      obtain ⟨c1, d1, t1, s1⟩ := o₁
      have := r5 _ rfl
      dsimp only at r2 r3 r4 this
      rw [r1, r2, r3, r4, this]
    rw [g1'] at g1
    cases g1
    clear hC I1 zF1
    (try dsimp only)
    (try k_fold)
    have zN2 : News g zL' h2 [] := fun _ h => nomatch h
    refine wpAny_pure (k h2 tk2 dx zF2.keep hgd a3 g1' ?_)
    rcases g4 with ⟨q, _⟩ | ⟨d2, q, _, q2⟩
    · cases q
    · cases q; exact ⟨_, Heap.Ns1.ns q2, rfl⟩
  · by_cases hy : n = Str.ofString "symbol"
    · rw [hy]; exact .head _
    · rw [if_neg hy] at q; exact absurd rfl q
 k_extra "e_Q"
end init_calls_e
theorem init_calls {w : World} {A : Around} {s : Shared} {E : Value → Shared → Prop} {Q : Value → Shared → Prop} {g : Heap} {e t : Addr} {sym : Str} {tk0 : Tok} {dat : Value} (S : Std w g) (hg : g.StaysIn s.heap) (hen : g.get? e = none)
    (he : NewExc s.heap e t) (hsz : g.objs.size ≤ s.heap.objs.size) (hd : A.depth < recursionLimit)
    (k : ∀ h' tk' d, g.StaysIn h' → g.get? d = none → d ≠ e → h'.get? e = some { cls := .ref 38, dict := some d, data := .fields #[.ref t, .none, .none, .none, .bool false, .none] } →
      (∃ m, h'.Ns d m ∧ m "symbol" = some (.str sym tk0)) → Q .none { s with heap := h', toks := tk' }) : wpAny (model Challenge.rw_np0089_01.row.prog w) A (call (.ref 35) [.ref e, .str sym tk0, dat]) Q E s := epsU (P := init_calls_e.zzS) (by with_unfolding_all exact init_calls_e.zzcore) (w, A, s, E, Q, g, e, t, sym, tk0, dat) S hg hen he hsz hd k
end Mine.Internal
namespace Mine.Internal
noncomputable def Thrown (g : Heap) (sym : Str) (e : Addr) (h : Heap) : Prop :=
  ∃ t d tk m, g.get? e = none ∧ g.get? d = none ∧ d ≠ e ∧ h.get? e = some { cls := .ref 38, dict := some d, data := .fields #[.ref t, .none, .none, .none, .bool false, .none] } ∧
    h.Ns d m ∧ m "symbol" = some (.str sym tk)
noncomputable def FliesF (B : Heap) (l : List Env) (sym : Str) (e : Addr) (h : Heap) (fl : Value) : Prop :=
  B.StaysIn h ∧ h.FunFrames B l ∧ ∃ d tk m, (d ∉ l.filterMap (·.frame) ∧ B.get? d = none) ∧ Sgn B e d fl h ∧ h.Ns d m ∧ m "symbol" = some (.str sym tk)
noncomputable abbrev Flies (B : Heap) (l : List Env) (sym : Str) (e : Addr) (h : Heap) : Prop := FliesF B l sym e h .none

section
variable {M : Model} {A : Around} {s : Shared} {E : Value → Shared → Prop}
theorem raiseStmt_sig {env : Env} {x : Sem Value} {Q : Flow → Shared → Prop} (hh : A.handled = none)
    (h : wpAny M A x (fun v s₁ => ∃ e g sym, v = .ref e ∧ Sig s₁.heap ∧ Thrown g sym e s₁.heap ∧ E (.ref e) s₁) E s) :
    wpAny M A (raiseStmt env (some x) none) Q E s := by
  have hcB : (Value.ref 38 :: [Value.type "Exception", .type "BaseException", .type "object"]).contains (.type "BaseException") = true := by rw [List.contains_cons, F.excBase_Exception.hasBase, Bool.or_true]
  unfold raiseStmt
  refine wpAny_bind (wpAny_mono h (fun v s₁ h₁ => ?_) fun _ _ x => x)
  obtain ⟨e, g0, sym, rfl, S, ⟨t, d0, tk0, m0, _, _, _, he, _⟩, hE⟩ := h₁
  obtain ⟨nm, q, sn, sub, ab, col, dd, c0, c1, c2, c3, c5, hC⟩ := S.C
  obtain ⟨hp, g, d, tk, os⟩ := s₁
  repeat (first | with_reducible refine wpAny_loadPart_at he ?_ | with_reducible refine wpAny_loadPart_at hC ?_ | (with_reducible refine wpAny_isSubtype_exc hC ?_; rw [hcB]) | wp_step)
  exact wpAny_raiseNew_none hh hE
theorem Raise_sig {env : Env} {x : Expr} {pos : Pos} {Q : Flow → Shared → Prop} (hh : A.handled = none)
    (h : wpAny M A (eval x env) (fun v s₁ => ∃ e g sym, v = .ref e ∧ Sig s₁.heap ∧ Thrown g sym e s₁.heap ∧ E (.ref e) s₁) E s) :
    wpAny M A (exec (.Raise (some x) none pos) env) Q E s := by
  rw [arm_exec_Raise]
  refine wpAny_bind (wpAny_standAt (raiseStmt_sig hh ?_))
  exact wpAny_bind (wpAny_mono h (fun v s₁ h₁ => wpAny_bind (wpAny_standAt (wpAny_pure h₁))) fun _ _ x => x)
end
section
variable {w : World} {A : Around} {s : Shared} {E : Value → Shared → Prop} {Q : Value → Shared → Prop}
theorem sig_made {sym : Str} {tk0 : Tok} {dat : Value} (S : Std w s.heap) (hd : (A.under (.builtin "type.__call__" ⟨[.ref 38, .str sym tk0, dat], []⟩)).depth < recursionLimit)
    (k : ∀ h' tk' e, s.heap.StaysIn h' → Thrown s.heap sym e h' → Q (.ref e) { s with heap := h', toks := tk' }) :
    wpAny (model Challenge.rw_np0089_01.row.prog w) A (call (.ref 38) [.str sym tk0, dat]) Q E s := by
  have Sg := sig_of S
  obtain ⟨nm, q, sn, sub, ab, col, dd, c0, c1, c2, c3, c5, hC⟩ := Sg.C
  obtain ⟨h0, g, dr, t, os⟩ := s
  refine wpAny_call_exc_init F.excBase_Exception hC Sg.N Sg.init (S.X 35 _ rfl) rfl (fun h' e hm => ?_)
  obtain ⟨t', he, _, _⟩ := hm.there
  have kg : Heap.StaysIn h0 (h'.hide e) := fun b o q => (Heap.hide_ne h' fun (x : b = e) => by rw [x] at q; rw [show h0.get? e = none from hm.new] at q; cases q).trans (hm.keeps b o q)
  refine init_calls (g := h'.hide e) (S.keeps kg) (fun b o q => Heap.of_hide q) (Heap.hide_self h' e) he (Nat.le_of_eq (Heap.hide_size h' e)) hd (fun h2 tk2 d st hgd hne he2 ⟨m, hn, hv⟩ => ⟨rfl, k h2 tk2 e (fun b o q => st b o (kg b o q)) ⟨t', d, tk0, m, hm.new, ?_, hne, he2, hn, hv⟩⟩)
  cases q : h0.get? d with
  | none => rfl
  | some o => rw [kg _ _ q] at hgd; cases hgd
end
end Mine.Internal
namespace Mine.Internal
noncomputable abbrev AtR (n : Nat) (l : List Env) : Around := { handled := none, depth := n, frames := some l, guards := none, units := 8 * n }
theorem liftR {α : Type} {M : Model} {A : Around} {t : Sem α} {Q : α → Shared → Prop} {E : Value → Shared → Prop} {s : Shared} {n : Nat} {l : List Env} (hh : A.handled = none) (hd : A.depth ≤ n) (hu : A.units ≤ 8 * n) (hf : A.frames = some l)
    (h : wpAny M (AtR n l) t Q E s) : wpAny M A t Q E s := fun Γ p hΓ =>
  h Γ p ⟨by rw [hΓ.1, hh], Nat.le_trans hΓ.2.1 hd, fun l' q => hΓ.2.2.1 l' (by rw [hf]; exact q), fun _ q => (nomatch q), Nat.le_trans hΓ.2.2.2.2 hu⟩
noncomputable def frs (l : List Env) : List Addr := l.filterMap (·.frame)
noncomputable def Raises (w : World) (n : Nat) (f : Value) (args : List Value) (h : Heap) (sym : Str) : Prop :=
  ∀ (A : Around) (s : Shared) (l : List Env) (B0 : Heap) (Q E : Value → Shared → Prop), A.handled = none → A.depth ≤ n → A.units ≤ 8 * n → A.frames = some l → h.FunFrames B0 l → s.heap = h →
    (∀ e h' tk', Flies (hideAll h (frs l)) l sym e h' → h.UpToSlots h' → E (.ref e) { s with heap := h', toks := tk' }) → wpAny (model Challenge.rw_np0089_01.row.prog w) A (call f args) Q E s
noncomputable def Up (h : Heap) (l : List Env) (env : Env) (sym : Str) (s : Shared) (v : Value) (s' : Shared) : Prop :=
  ∃ e h' tk' fl, v = .ref e ∧ s' = { s with heap := h', toks := tk' } ∧ FliesF (hideAll h (frs l)) (env :: l) sym e h' fl ∧ h.UpToSlots h'
noncomputable def Tb (B : Heap) (e d : Addr) (h : Heap) : Prop :=
  ∃ oe vs T oT ts, h.get? e = some oe ∧ oe.cls = .ref 38 ∧ oe.dict = some d ∧ oe.data = .fields vs ∧ B.get? e = none ∧ 1 < vs.size ∧ vs[1]? = some (.ref T) ∧ B.get? T = none ∧ T ≠ e ∧ h.get? T = some oT ∧ oT.data = .fields ts ∧ 3 < ts.size
theorem Sgn.tb {B h : Heap} {e d L : Addr} (x : Sgn B e d (rawInt L) h) : Tb B e d h := by
  obtain ⟨oe, vs, he, hc, hdd, hd, hen, hsz, hv | ⟨T, oT, ts, h1, hnT, hTe, hT, hdT, h3⟩⟩ := x
  · exact absurd hv.1 (by simp [rawInt])
  · exact ⟨oe, vs, T, oT, ts, he, hc, hdd, hd, hen, hsz, h1, hnT, hTe, hT, hdT, (Array.getElem?_eq_some_iff.mp h3).1⟩
section
variable {M : Model} {A : Around} {s : Shared} {B : Heap} {E : Value → Shared → Prop}
theorem noteX {env : Env} {outer : List Env} {L e d : Addr} {fl : Value} {Q : Unit → Shared → Prop} (hfr : A.frames = some (env :: outer)) (hl : s.heap.FunFrames B (env :: outer)) (hf : env.frame = some L) (hB : B.StaysIn s.heap) (x : Sgn B e d fl s.heap)
    (k : ∀ h', B.StaysIn h' → h'.FunFrames B (env :: outer) → Tb B e d h' → s.heap.UpToSlots h' → Q () { s with heap := h' }) :
    wpAny M A (noteFrame (.ref e) env) Q E s := by
  obtain ⟨oe, vs, he, hc, hdd, hd, hen, hsz, hv | ⟨T, oT, ts, h1, hnT, hTe, hT, hdT, h3⟩⟩ := x
  · unfold noteFrame
    simp only [hf]
    refine wpAny_bind (wpAny_field he hd hv.2 ?_)
    rw [if_neg (by decide)]
    exact entryS hfr hl hf he hB hen hc hdd hd hsz fun h' a1 a2 a3 a4 => k h' a1 a2 a3.tb a4
  · unfold noteFrame
    simp only [hf]
    refine wpAny_bind (wpAny_field he hd h1 ?_)
    rw [if_pos (show (Value.ref T != Value.none) = true from by simp)]
    refine wpAny_bind (wpAny_field hT hdT h3 ?_)
    by_cases hq : (fl == rawInt L) = true
    · rw [if_pos hq]
      exact wpAny_pure (k s.heap hB hl ⟨oe, vs, T, oT, ts, he, hc, hdd, hd, hen, hsz, h1, hnT, hTe, hT, hdT, (Array.getElem?_eq_some_iff.mp h3).1⟩ (.refl _))
    rw [if_neg hq]
    refine wpAny_bind (wpAny_setField hT hdT (Array.getElem?_eq_some_iff.mp h3).1 ?_)
    have other : ∀ b, b ≠ T → (s.heap.update T (Obj.mapFields (·.setIfInBounds 3 Value.none))).get? b = s.heap.get? b := fun b hb => Heap.get?_update_other _ _ (Ne.symm hb)
    have noRecord : ∀ b o, s.heap.get? b = some o → (∀ vs, o.data ≠ .fields vs) → b ≠ T := fun b o hb hnf q => by
      rw [q, hT] at hb; injection hb with hb; subst hb; exact hnf ts hdT
    exact entryS hfr (hl.of_keeps fun b o hb hnf => ⟨o, (other b (noRecord b o hb hnf)).trans hb, rfl⟩) hf ((other e (Ne.symm hTe)).trans he)
      (fun b o hbo => (other b fun q => by rw [q, hnT] at hbo; cases hbo).trans (hB b o hbo)) hen hc hdd hd hsz
      fun h' x1 x2 x3 x4 => k h' x1 x2 x3.tb fun b o hb hnf => x4 b o ((other b (noRecord b o hb hnf)).trans hb) hnf
theorem setTb {l : List Env} {e d : Addr} {o : Option Addr} {Q : Unit → Shared → Prop} (hl : s.heap.FunFrames B l) (hB : B.StaysIn s.heap) (x : Tb B e d s.heap)
    (k : ∀ h', B.StaysIn h' → h'.FunFrames B l → Sgn B e d (o.elim Value.none fun f => rawInt f) h' → s.heap.UpToSlots h' → Q () { s with heap := h' }) :
    wpAny M A (setFlight (.ref e) o) Q E s := by
  obtain ⟨oe, vs, T, oT, ts, he, hc, hdd, hd, hen, hsz, h1, hnT, hTe, hT, hdT, hsz3⟩ := x
  have other : ∀ b, b ≠ T → (s.heap.update T (Obj.mapFields (·.setIfInBounds 3 (o.elim Value.none fun f => rawInt f)))).get? b = s.heap.get? b :=
    fun b hb => Heap.get?_update_other _ _ (Ne.symm hb)
  have noRecord : ∀ b o, s.heap.get? b = some o → (∀ vs, o.data ≠ .fields vs) → b ≠ T := fun b o hb hnf q => by
    rw [q, hT] at hb; injection hb with hb; subst hb; exact hnf ts hdT
  unfold setFlight
  refine wpAny_bind (wpAny_field he hd h1 ?_)
  rw [if_pos (show (Value.ref T != Value.none) = true from by simp)]
  refine wpAny_setField hT hdT hsz3 (k _ (fun b o hbo => (other b fun q => by rw [q, hnT] at hbo; cases hbo).trans (hB b o hbo))
    (hl.of_keeps fun b o hb hnf => ⟨o, (other b (noRecord b o hb hnf)).trans hb, rfl⟩) ?_ fun b o hb hnf => ⟨o.slots, (other b (noRecord b o hb hnf)).trans hb⟩)
  exact ⟨oe, vs, (other e (Ne.symm hTe)).trans he, hc, hdd, hd, hen, hsz, .inr ⟨T, _, _, h1, hnT, hTe, Heap.get?_update_self _ hT (Obj.isFreed_of_fields (Obj.data_mapFields hdT _)), Obj.data_mapFields hdT _, by simp [hsz3]⟩⟩
theorem tb_field {e d : Addr} {Q : Value → Shared → Prop} (x : Tb B e d s.heap) (k : ∀ T, Q (.ref T) s) : wpAny M A (field (.ref e) 1) Q E s := by
  obtain ⟨oe, vs, T, oT, ts, he, hc, hdd, hd, hen, hsz, h1, _⟩ := x
  exact wpAny_field he hd h1 (k T)
theorem Up.passes {h : Heap} {l : List Env} {env : Env} {sym : Str} {s : Shared} {L : Addr} (hfr : A.frames = some (env :: l)) (hf : env.frame = some L) : PassesOwn M A env (Up h l env sym s) := by
  intro v s' u
  obtain ⟨e, h1, tk1, fl, rfl, rfl, ⟨k1, k2, d, tk0, m, nd, sg, hn, hv⟩, up⟩ := u
  unfold notedBy
  refine noteX hfr k2 hf k1 sg fun h2 a1 a2 a3 a4 => ?_
  unfold cameBackBy
  refine wpAny_bind (tb_field a3 fun T => ?_)
  rw [if_neg (by simp)]
  refine setTb a2 a1 a3 fun h3 b1 b2 b3 b4 => ?_
  exact ⟨e, h3, tk1, _, rfl, rfl, ⟨b1, b2, d, tk0, m, nd, b3, (a4.trans b4).ns hn, hv⟩, up.trans (a4.trans b4)⟩
end
theorem frames_in : ∀ {l : List Env} {b h : Heap}, h.FunFrames b l → ∀ env ∈ l, ∀ a, env.frame = some a → a ∈ frs l
  | [], _, _, _, _, he => nomatch he
  | env :: r, _, _, _, e, he => fun a ha => List.mem_filterMap.mpr ⟨e, he, ha⟩
theorem stays_none {B B' : Heap} (k : B.StaysIn B') {L : Addr} (hn : B'.get? L = none) : B.get? L = none := by
  cases q : B.get? L with
  | none => rfl
  | some o' => rw [k _ _ q] at hn; cases hn
theorem funFrames_base {h B B' : Heap} (k : B.StaysIn B') : ∀ {l : List Env}, h.FunFrames B' l → h.FunFrames B l
  | [], _ => trivial
  | _ :: _, ⟨hk, ⟨L, o, hf, hn, ho, hd⟩, hr⟩ => ⟨hk, ⟨L, o, hf, stays_none k hn, ho, hd⟩, funFrames_base k hr⟩
theorem funFrames_up {h h' B : Heap} {l : List Env} (hl : h.FunFrames B l) (k : h.StaysIn h') : h'.FunFrames B l := hl.of_keeps fun b o hb _ => ⟨o, k b o hb, rfl⟩
theorem hide_stays {h : Heap} (as : List Addr) : (hideAll h as).StaysIn h := fun _ _ q => of_hideAll as q

section
variable {w : World} {h h2 h' : Heap} {B0 : Heap} {l : List Env} {name : Str} {scope : Scope} {L a : Addr} {cd : Value} {cl : List (Str × Addr)} {sym : Str} {s : Shared} {e : Addr} {tk : Nat} {m m2 : Str → Option Value}
theorem frames_cons (hl : h.FunFrames B0 l) (k : h.StaysIn h') (hLh : h.objs.size ≤ L) (hn : h'.Ns L m) (hk : scope.kind ≠ .module) : h'.FunFrames (hideAll h (frs l)) (envX name scope L a cd cl :: l) := by
  obtain ⟨o, es, ep, e1, e2, _⟩ := hn
  refine ⟨hk, ⟨L, o, rfl, ?_, e1, fun vs q => by rw [e2] at q; cases q⟩, funFrames_up (funFrames_hide hl (frames_in hl)) k⟩
  exact Heap.get?_none_of_le (by rw [hideAll_size]; exact hLh)
theorem Up.thrown (F : Fr h L h' m) (F2 : Fr h L h2 m2) (T : Thrown h2 sym e h') (hl : h.FunFrames B0 l) (hk : scope.kind ≠ .module) : Up h l (envX name scope L a cd cl) sym s (.ref e) { s with heap := h', toks := tk } := by
  obtain ⟨t, d, tk0, m, n1, n2, n3, n4, n5, n6⟩ := T
  have fr : ∀ b, h2.get? b = none → (hideAll h (frs l)).get? b = none := fun b hb => by
    cases q : (hideAll h (frs l)).get? b with
    | none => rfl
    | some o => rw [F2.keep _ _ (of_hideAll _ q)] at hb; cases hb
  have nd : d ∉ (envX name scope L a cd cl :: l).filterMap (·.frame) := fun hm => by
    obtain ⟨_, o, ho, _⟩ := (frames_cons (name := name) (scope := scope) (a := a) (cd := cd) (cl := cl) hl F2.keep F2.above F2.ns hk).mem hm
    rw [n2] at ho; cases ho
  have hf2 := frames_cons (name := name) (a := a) (cd := cd) (cl := cl) hl F2.keep F2.above F2.ns hk
  exact ⟨e, h', tk, .none, rfl, rfl, ⟨fun b o q => F.keep b o (of_hideAll _ q), frames_cons hl F.keep F.above F.ns hk, d, tk0, m, ⟨nd, fr _ n2⟩,
    ⟨_, _, n4, rfl, rfl, rfl, fr _ n1, by simp, .inl ⟨rfl, rfl⟩⟩, n5, n6⟩, .of_keeps F.keep⟩
noncomputable def RaisePost (E : Value → Shared → Prop) (v : Value) (s₁ : Shared) : Prop := ∃ e g sym, v = .ref e ∧ Sig s₁.heap ∧ Thrown g sym e s₁.heap ∧ E (.ref e) s₁
theorem RaisePost.up (S : Std w h) (F : Fr h L h' m) (T : Thrown h2 sym e h') (F2 : ∃ m2, Fr h L h2 m2) (hl : h.FunFrames B0 l) (hk : scope.kind ≠ .module) : RaisePost (Up h l (envX name scope L a cd cl) sym s) (.ref e) { s with heap := h', toks := tk } :=
  ⟨e, h2, sym, rfl, sig_of (S.keeps F.keep), T, let ⟨_, F2⟩ := F2; Up.thrown F F2 T hl hk⟩
theorem Raise_up {M : Model} {A : Around} {E : Value → Shared → Prop} {env : Env} {x : Expr} {pos : Pos} {Q : Flow → Shared → Prop} (hh : A.handled = none)
    (h : wpAny M A (eval x env) (RaisePost E) E s) : wpAny M A (exec (.Raise (some x) none pos) env) Q E s := Raise_sig hh h

theorem flies_base {B B' : Heap} {l : List Env} {fl : Value} (kB : B.StaysIn B') (x : FliesF B' l sym e h' fl) : FliesF B l sym e h' fl := by
  obtain ⟨k1, k2, d, tk0, m0, ⟨nd, nb⟩, ⟨oe, vs, x1, x2, x3, x4, x5, x6, x7⟩, n5, n6⟩ := x
  refine ⟨fun b o q => k1 b o (kB b o q), funFrames_base kB k2, d, tk0, m0, ⟨nd, stays_none kB nb⟩, ⟨oe, vs, x1, x2, x3, x4, stays_none kB x5, x6, ?_⟩, n5, n6⟩
  rcases x7 with x7 | ⟨T, oT, ts, y1, y2, y3⟩
  · exact .inl x7
  · exact .inr ⟨T, oT, ts, y1, stays_none kB y2, y3⟩
theorem base_up {h₁ : Heap} (F : Fr h L h₁ m) : (hideAll h (frs l)).StaysIn (hideAll h₁ (frs (envX name scope L a cd cl :: l))) := fun b o q => hideAll_get _ (F.keep b o (of_hideAll _ q)) fun hm => by
    rcases List.mem_cons.mp hm with rfl | hm
    · exact absurd (Nat.lt_of_lt_of_le (Heap.lt_size (of_hideAll _ q)) F.above) (Nat.lt_irrefl _)
    · have : (hideAll h (frs l)).get? b = none := hideAll_none _ hm
      rw [this] at q; cases q
theorem Up.passed {h₁ : Heap} {fl : Value} (F : Fr h L h₁ m) (fl : FliesF (hideAll h₁ (frs (envX name scope L a cd cl :: l))) (envX name scope L a cd cl :: l) sym e h' fl) (u : h₁.UpToSlots h') :
    Up h l (envX name scope L a cd cl) sym s (.ref e) { s with heap := h', toks := tk } :=
  ⟨e, h', tk, _, rfl, rfl, flies_base (base_up F) fl, fun b o q => u b o (F.keep b o q)⟩
theorem funFrames_but {h h' B : Heap} {C : Addr} (k : ∀ b o, b ≠ C → h.get? b = some o → h'.get? b = some o) : ∀ {l : List Env}, C ∉ frs l → h.FunFrames B l → h'.FunFrames B l
  | [], _, _ => trivial
  | env :: r, hc, ⟨hk, ⟨L, o, hf, hn, ho, hd⟩, hr⟩ => by
    have e : frs (env :: r) = L :: frs r := by unfold frs; rw [List.filterMap_cons, hf]
    rw [e] at hc
    exact ⟨hk, ⟨L, o, hf, hn, k _ _ (fun q => hc (q ▸ .head _)) ho, hd⟩, funFrames_but k (fun hm => hc (.tail _ hm)) hr⟩
noncomputable def CompErr (M : Model) (A : Around) (E : Value → Shared → Prop) (C : Addr) (x : Value) (s₁ : Shared) : Prop :=
  ∃ m, s₁.heap.Ns C m ∧ ∀ h', Heap.SameBut C s₁.heap h' → ∀ cenv : Env, cenv.locals = C → wpAny M A (PySem.passOn "comprehension.variables-let-go" x cenv : Sem Value) (fun _ _ => False) E { s₁ with heap := h' }
theorem note_same {x : Value} {e1 e2 : Env} (hf : e1.frame = e2.frame) : noteFrame x e1 = noteFrame x e2 := by
  unfold noteFrame PySem.frameOf; rw [hf]
theorem comp_pass {M : Model} {A : Around} {h₁ : Heap} {C : Addr} {cenv : Env} (F : Fr h L h₁ m) (hC : ∃ m, h₁.Ns C m) (hCh : h.get? C = none) (hCf : C ∉ frs (envX name scope L a cd cl :: l)) (hfr : A.frames = some (envX name scope L a cd cl :: l)) (hcf : cenv.frame = some L)
    (fl : Flies (hideAll h₁ (frs (envX name scope L a cd cl :: l))) (envX name scope L a cd cl :: l) sym e h') (u : h₁.UpToSlots h') :
    notedBy M A cenv (CompErr M A (Up h l (envX name scope L a cd cl) sym s) C) (.ref e) { s with heap := h', toks := tk } := by
  obtain ⟨k1, k2, d, tk0, m0, ⟨nd, nb⟩, sg, hn, hv⟩ := fl
  obtain ⟨mC, oC, esC, epC, hoC, hdC, hC2⟩ := hC
  have hCB : (hideAll h₁ (frs (envX name scope L a cd cl :: l))).get? C = some oC := hideAll_get _ hoC hCf
  have hdC2 : d ≠ C := fun q => by rw [q, hCB] at nb; cases nb
  unfold notedBy
  rw [note_same (e2 := envX name scope L a cd cl) (by rw [hcf])]
  refine noteX hfr k2 rfl k1 sg fun h2 a1 a2 a3 a4 => ?_
  have u2 := u.trans a4
  have hC3 : h2.Ns C mC := u2.ns ⟨oC, esC, epC, hoC, hdC, hC2⟩
  refine ⟨mC, hC3, fun h3 sb cenv' _ => ?_⟩
  have kB := base_up (name := name) (scope := scope) (l := l) (a := a) (cd := cd) (cl := cl) F
  have hCB0 : (hideAll h (frs l)).get? C = none := by
    cases q : (hideAll h (frs l)).get? C with
    | none => rfl
    | some o => rw [of_hideAll _ q] at hCh; cases hCh
  have keep : ∀ b o, b ≠ C → h2.get? b = some o → h3.get? b = some o := fun b o hb q => (sb.2 b hb).trans q
  have s3 : (hideAll h (frs l)).StaysIn h3 := fun b o q => keep b o (fun x => by rw [x, hCB0] at q; cases q) (a1 b o (kB b o q))
  have f3 : h3.FunFrames (hideAll h (frs l)) (envX name scope L a cd cl :: l) := funFrames_but keep hCf (funFrames_base kB a2)
  obtain ⟨oe, vs, T, oT, ts, he, hc, hdd, hd, hen, hsz, h1, hnT, hTe, hT, hdT, h3'⟩ := a3
  have notC : ∀ b o, h2.get? b = some o → (∃ vs, o.data = .fields vs) → b ≠ C := fun b o q ⟨vs, r⟩ x => by
    obtain ⟨o', es, ep, e1, e2, _⟩ := hC3
    rw [x, e1] at q; cases q; rw [e2] at r; cases r
  have tb3 : Tb (hideAll h (frs l)) e d h3 := ⟨oe, vs, T, oT, ts, keep _ _ (notC _ _ he ⟨_, hd⟩) he, hc, hdd, hd, stays_none kB hen, hsz, h1, stays_none kB hnT, hTe, keep _ _ (notC _ _ hT ⟨_, hdT⟩) hT, hdT, h3'⟩
  have n3 : h3.Ns d m0 := (a4.ns hn).sameBut sb hdC2
  unfold PySem.passOn
  refine wpAny_bind (tb_field tb3 fun T => ?_)
  rw [if_neg (by simp)]
  refine wpAny_bind (setTb f3 s3 tb3 fun h4 c1 c2 c3 c4 => ?_)
  refine wpAny_throw ?_
  refine ⟨e, h4, tk, _, rfl, rfl, ⟨c1, c2, d, tk0, m0, ⟨nd, stays_none kB nb⟩, c3, c4.ns n3, hv⟩, fun b o q hnf => ?_⟩
  obtain ⟨sl, q2⟩ := u2 b o (F.keep _ _ q) hnf
  obtain ⟨sl2, q4⟩ := c4 b _ (keep _ _ (fun x => by rw [x, hCh] at q; cases q) q2) hnf
  exact ⟨sl2, q4⟩
theorem Raises.pass {n : Nat} {f : Value} {args : List Value} {A : Around} {s₁ : Shared} {Q : Value → Shared → Prop} (C : Raises w n f args s₁.heap sym) (F : Fr h L s₁.heap m) (hl : h.FunFrames B0 l) (hfr : A.frames = some (envX name scope L a cd cl :: l))
    (hk : scope.kind ≠ .module) (hs : ∃ tk, s₁ = { s with heap := s₁.heap, toks := tk })
    (hh : autoParam (A.handled = none) auR) (hd : autoParam (A.depth ≤ n) auL) (hu : autoParam (A.units ≤ 8 * n) auL) :
    wpAny (model Challenge.rw_np0089_01.row.prog w) A (call f args) Q (Up h l (envX name scope L a cd cl) sym s) s₁ := by
  refine C A s₁ _ _ Q _ hh hd hu hfr (frames_cons hl F.keep F.above F.ns hk) rfl fun e h' tk' fl u => ?_
  obtain ⟨tk, hs⟩ := hs
  have := Up.passed (s := s) (tk := tk') F fl u
  rw [hs]; exact this
end

theorem Raises.fn {w : World} {n : Nat} {f : Addr} {args : List Value} {h : Heap} {sym : Str}
    {name qual : Str} {params : Arguments} {body : List Stmt} {scope : Scope} {dV kV doc pm cdv ct oc : Value} {an od : Option Addr} {osl : Array (Option Value)} {binds : List (Str × Value)}
    (S : Std w h) (ho : (Mine.hd.heap_39 w.params).lookup f = some ⟨oc, od, .func (fnOf name qual params body scope dV kV doc pm an cdv ct), osl⟩)
    (hcd : codeIn (Mine.hd.heap_39 w.params) cdv qual = true) (hroom : n < recursionLimit)
    (hbind : ∀ s, BindsTo s (fnOf name qual params body scope dV kV doc pm an cdv ct) ⟨args, []⟩ binds) (hloc : ∀ y ∈ binds, scope.names.lookup y.1 = some .local)
    (hb : ∀ (L' : Addr) (h₁ : Heap) (s : Shared) (tk : Nat) (l : List Env) (B0 : Heap), h.FunFrames B0 l → Fr h L' h₁ (fun y => binds.reverse.lookup y) → News h L' h₁ [] →
      wpAny (model Challenge.rw_np0089_01.row.prog w) ((AtR n l).deeper (envOf qual scope L' f cdv)) (execs body (envOf qual scope L' f cdv))
        (fun fl s' => False) (Up h l (envOf qual scope L' f cdv) sym s) { s with heap := h₁, toks := tk })
    (hco : scope.isCoroutine = false) (hgen : scope.isGenerator = false) (hk : scope.kind = .function)
    (hcell : ∀ x ∈ scope.names, x.2 ≠ .cell) : Raises w n (.ref f) args h sym := by
  intro A s l B0 Q E hh hd hu hfr hl hs k
  subst hs
  refine liftR hh hd hu hfr (enter S ho hcd hroom hbind hloc (fun L' h₁ tk F => ?_) hco hgen hk hcell)
  refine wpAny_mono (hb L' h₁ s tk l B0 hl F (fun _ h => nomatch h)) (fun fl s' r => r.elim) fun v s' u => ?_
  obtain ⟨e, h2, tk2, fl, rfl, rfl, ⟨k1, k2, d, tk0, m0, ⟨nd, nb⟩, sg, n5, n6⟩, u⟩ := u
  unfold leaving
  refine wpAny_bind (noteX rfl k2 rfl k1 sg fun h3 a1 a2 a3 a4 => setTb (o := none) (s := { s with heap := h3, toks := tk2 }) a2 a1 a3 fun h4 b1 b2 b3 b4 => ?_)
  exact k e h4 tk2 ⟨b1, b2.2.2, d, tk0, m0, ⟨fun hm => nd (List.mem_cons_of_mem _ hm), nb⟩, b3, (a4.trans b4).ns n5, n6⟩ (u.trans (a4.trans b4))
theorem sig_used {w : World} {A : Around} {s : Shared} {E : Value → Shared → Prop} {Q : Value → Shared → Prop} {g : Heap} {L : Addr} {m : Str → Option Value} {news : List (Addr × Obj)} {sym : Str} {tk0 : Tok} {dat : Value}
    (S : Std w s.heap) (F : Fr g L s.heap m) (N : News g L s.heap news) (hd : (A.under (.builtin "type.__call__" ⟨[.ref 38, .str sym tk0, dat], []⟩)).depth < recursionLimit)
    (k : ∀ h' tk' e, Thrown s.heap sym e h' → Fr g L h' m → News g L h' news → Q (.ref e) { s with heap := h', toks := tk' }) :
    wpAny (model Challenge.rw_np0089_01.row.prog w) A (call (.ref 38) [.str sym tk0, dat]) Q E s :=
  sig_made S hd fun h' tk' e st T => k h' tk' e T (F.keeps st) (N.grown st)
end Mine.Internal
namespace Mine.Internal
theorem greatest_calls {w : World} {h : Heap} (S : Std w h) {l : Addr} {vs : List Value} {ns : List Int} (hl : h.IsList l vs.toArray) (V : NumsAt h vs ns) (h0 : 0 < ns.length) (hlen : ns.length ≤ 10) : Calls w 380 (.ref 363) [.none, .ref l] h (fun v _ => ∃ M t, v = .int M t ∧ M ∈ ns ∧ ∀ a, a ∈ ns → a ≤ M) := by
 k_with "e_q" =>
  k_with "m_elt" => (obtain ⟨zn, zhn, zV⟩ := NumsAt.of (by assumption) zP)
  k_with "m_eclose" => exact NumG.of (by assumption)
  k_with "m_made" => (have zI := nums_made (by assumption) zpr)
  k_with "m_size" => (have zq := NumsAt.len (by assumption); omega)
  have hG : CompWith (Str.ofString "value") (NumG h) := trivial
  k_with "m_close" => exact ⟨_, _, rfl, by assumption, by assumption⟩
  walk_at "m_enter"
  k_steps
 k_extra "e_Q"
theorem least_of_calls {w : World} {h : Heap} (S : Std w h) {l : Addr} {vs : List Value} {ns : List Int} (hl : h.IsList l vs.toArray) (V : NumsAt h vs ns) (h0 : 0 < ns.length) (hlen : ns.length ≤ 10) : Calls w 380 (.ref 368) [.none, .ref l] h (fun v _ => ∃ M t, v = .int M t ∧ M ∈ ns ∧ ∀ a, a ∈ ns → M ≤ a) := by
 k_with "e_q" =>
  k_with "m_elt" => skip
  k_with "m_eclose" => skip
  k_with "m_made" => skip
  k_with "m_size" => skip
  k_with "m_close" => skip
  k_with "m_elt" => (obtain ⟨zn, zhn, zV⟩ := NumsAt.of (by assumption) zP)
  k_with "m_eclose" => exact NumG.of (by assumption)
  k_with "m_made" => (have zI := nums_made (by assumption) zpr)
  k_with "m_size" => (have zq := NumsAt.len (by assumption); omega)
  have hG : CompWith (Str.ofString "value") (NumG h) := trivial
  k_with "m_close" => exact ⟨_, _, rfl, by assumption, by assumption⟩
  walk_at "m_enter"
  k_steps
 k_extra "e_Q"

end Mine.Internal
namespace Mine.Internal
theorem boolean_bool {w : World} {h : Heap} (S : Std w h) {b : Bool} : Calls w 400 (.ref 117) [.bool b] h (fun v _ => v = .ref (if b then 67 else 64)) := by
  revert S
  revert w h b
  refine no_implicit_lambda% (epsT3 (ne := ⟨(Mine.Internal.zw, cN, cN)⟩) ?_); generalize pj1 _ = w; generalize pj2 _ = h; generalize pl3 _ = b
  intro S
  have zOn : ZOn := .mk
  cases b <;> (walk_at "m_enter"; k_steps)
theorem plus_calls {w : World} {h : Heap} (S : Std w h) {l : Addr} {vs : List Value} {ns : List Int} (hl : h.IsList l vs.toArray) (V : NumsAt h vs ns) (hf : Fits (fun a n => a + n) 0 ns) : Calls w 380 (.ref 262) [.none, .ref l] h (fun v _ => ∃ t, v = .int (ns.foldl (fun a n => a + n) (0)) t) := by
 k_with "e_q" =>
  revert S hl V hf
  revert w h l vs ns
  refine no_implicit_lambda% (epsT5 (ne := ⟨(Mine.Internal.zw, cN, cN, cN, cN)⟩) ?_); generalize pj1 _ = w; generalize pj2 _ = h; generalize pj3 _ = l; generalize pj4 _ = vs; generalize pl5 _ = ns
  intro S hl V hf
  have zOn : ZOn := .mk
  k_with "m_len" => exact NumsAt.len (by assumption)
  k_with "m_item" => (have zV := NumsAt.item (by assumption) zhv zhn; have zb := Fits.at (by assumption) zhn zha; (try dsimp only at zb))
  have hg : FoldWith (Str.ofString "found") (fun a n => a + n) := trivial
  walk_at "m_enter"
  k_steps
 k_extra "e_Q"
noncomputable def MFits (a₀ : Int) (ns : List Int) : Prop := ∀ (i : Nat) (n : Int), ns[i]? = some n → Builtin.Int.intBits ((ns.take i).foldl (fun a n => a * n) a₀) + Builtin.Int.intBits n ≤ 1000000
theorem MFits.at {a₀ : Int} {ns : List Int} {i : Nat} {n a : Int} (h : MFits a₀ ns) (hn : ns[i]? = some n) (ha : a = (ns.take i).foldl (fun a n => a * n) a₀) : IntMulOk a n := by
  subst ha; exact mul_ok (h i n hn)
theorem times_calls {w : World} {h : Heap} (S : Std w h) {l : Addr} {vs : List Value} {ns : List Int} (hl : h.IsList l vs.toArray) (V : NumsAt h vs ns) (hf : Fits (fun a n => a * n) 1 ns) (hm : MFits 1 ns) : Calls w 380 (.ref 276) [.none, .ref l] h (fun v _ => ∃ t, v = .int (ns.foldl (fun a n => a * n) (1)) t) := by
 k_with "e_q" =>
  revert S hl V hf hm
  revert w h l vs ns
  refine no_implicit_lambda% (epsT5 (ne := ⟨(Mine.Internal.zw, cN, cN, cN, cN)⟩) ?_); generalize pj1 _ = w; generalize pj2 _ = h; generalize pj3 _ = l; generalize pj4 _ = vs; generalize pl5 _ = ns
  intro S hl V hf hm
  have zOn : ZOn := .mk
  k_with "m_len" => skip
  k_with "m_item" => skip
  k_with "m_len" => exact NumsAt.len (by assumption)
  k_with "m_item" => (have zV := NumsAt.item (by assumption) zhv zhn; have zb := Fits.at (by assumption) zhn zha; (try dsimp only at zb); have zm := MFits.at (by assumption) zhn zha)
  have hg : FoldWith (Str.ofString "found") (fun a n => a * n) := trivial
  walk_at "m_enter"
  k_steps
 k_extra "e_Q"

end Mine.Internal
namespace Mine.Internal
noncomputable def chainV (ks ns : List Int) : Bool := (ns.zip (ns.drop 1)).all fun p => ks.any fun x => x == b2i (decide (p.2 < p.1)) - b2i (decide (p.1 < p.2))
theorem chain_no {ks ns : List Int} {a b : Int} (hf : List.find? (fun p => !ks.any fun x => x == b2i (decide (p.2 < p.1)) - b2i (decide (p.1 < p.2))) (ns.zip (ns.drop 1)) = some (a, b)) :
    Value.ref 64 = .ref (if chainV ks ns then 67 else 64) := by
  have h : chainV ks ns = false := by
    unfold chainV
    rw [List.all_eq_false]
    have h1 := List.mem_of_find?_eq_some hf
    have h2 := List.find?_some hf
    refine ⟨_, h1, fun q => ?_⟩
    have h3 : (!(ks.any fun x => x == b2i (decide (b < a)) - b2i (decide (a < b)))) = true := h2
    have q' : (ks.any fun x => x == b2i (decide (b < a)) - b2i (decide (a < b))) = true := q
    rw [q'] at h3; cases h3
  rw [h]; rfl
theorem chain_yes {ks ns : List Int} (hf : ∀ p ∈ ns.zip (ns.drop 1), (!ks.any fun x => x == b2i (decide (p.2 < p.1)) - b2i (decide (p.1 < p.2))) = false) :
    Value.ref 67 = .ref (if chainV ks ns then 67 else 64) := by
  have h : chainV ks ns = true := by
    unfold chainV
    rw [List.all_eq_true]
    intro p hp
    have := hf p hp
    simpa using this
  rw [h]; rfl
theorem chained1 {w : World} {h : Heap} (S : Std w h) {l t : Addr} {vs : List Value} {ns : List Int} {k : Int} {tk : Tok} (hl : h.IsList l vs.toArray) (V : NumsAt h vs ns) (hlen : ns.length ≤ 10) (ht : h.IsTuple t #[.int k tk]) : Calls w 370 (.ref 316) [.ref l, .ref t] h (fun v _ => v = .ref (if chainV [k] ns then 67 else 64)) := by
 k_with "e_q" =>
  revert S hl V hlen ht
  revert w h l t vs ns k tk
  refine no_implicit_lambda% (epsT8 (ne := ⟨(Mine.Internal.zw, cN, cN, cN, cN, cN, cN, cN)⟩) ?_); generalize pj1 _ = w; generalize pj2 _ = h; generalize pj3 _ = l; generalize pj4 _ = t; generalize pj5 _ = vs; generalize pj6 _ = ns; generalize pj7 _ = k; generalize pl8 _ = tk
  intro S hl V hlen ht
  have zOn : ZOn := .mk
  k_with "m_elt" => ((have zq9 := NumsAt.of (by assumption) zP; replace zq9 := epsX zq9; generalize zXc _ _ = zn at zq9; obtain ⟨zhn, zq9⟩ := zq9; have zV := zq9; clear zq9))
  k_with "m_eclose" => exact NumG.of (by assumption)
  k_with "m_made" => (have zI := nums_made (by assumption) zpr)
  k_with "m_size" => (have zq := NumsAt.len (by assumption); omega)
  have hG : CompWith (Str.ofString "value") (NumG h) := trivial
  k_with "m_close" => first | exact chain_no (by assumption) | exact chain_yes (by assumption)
  walk_at "m_enter"
  k_steps
 k_extra "e_Q"
theorem chained2 {w : World} {h : Heap} (S : Std w h) {l t : Addr} {vs : List Value} {ns : List Int} {k k2 : Int} {tk tk2 : Tok} (hl : h.IsList l vs.toArray) (V : NumsAt h vs ns) (hlen : ns.length ≤ 10) (ht : h.IsTuple t #[.int k tk, .int k2 tk2]) : Calls w 370 (.ref 316) [.ref l, .ref t] h (fun v _ => v = .ref (if chainV [k, k2] ns then 67 else 64)) := by
 k_with "e_q" =>
  revert S hl V hlen ht
  revert w h l t vs ns k k2 tk tk2
  refine no_implicit_lambda% (epsT10 (ne := ⟨(Mine.Internal.zw, cN, cN, cN, cN, cN, cN, cN, cN, cN)⟩) ?_); generalize pj1 _ = w; generalize pj2 _ = h; generalize pj3 _ = l; generalize pj4 _ = t; generalize pj5 _ = vs; generalize pj6 _ = ns; generalize pj7 _ = k; generalize pj8 _ = k2; generalize pj9 _ = tk; generalize pl10 _ = tk2
  intro S hl V hlen ht
  have zOn : ZOn := .mk
  k_with "m_elt" => skip
  k_with "m_eclose" => skip
  k_with "m_made" => skip
  k_with "m_size" => skip
  k_with "m_close" => skip
  k_with "m_elt" => ((have zq9 := NumsAt.of (by assumption) zP; replace zq9 := epsX zq9; generalize zXc _ _ = zn at zq9; obtain ⟨zhn, zq9⟩ := zq9; have zV := zq9; clear zq9))
  k_with "m_eclose" => exact NumG.of (by assumption)
  k_with "m_made" => (have zI := nums_made (by assumption) zpr)
  k_with "m_size" => (have zq := NumsAt.len (by assumption); omega)
  have hG : CompWith (Str.ofString "value") (NumG h) := trivial
  k_with "m_close" => first | exact chain_no (by assumption) | exact chain_yes (by assumption)
  walk_at "m_enter"
  k_steps
 k_extra "e_Q"

end Mine.Internal
namespace Mine.Internal
theorem news_tuple {h₀ h : Heap} {L a : Addr} {items : Array Value} {n : Nat} {d : Option Addr} {sl : Array (Option Value)} {news : List (Addr × Obj)} (N : News h₀ L h news) (hm : (a, { cls := .type "tuple", dict := d, data := .seq items n, slots := sl }) ∈ news) : h.IsTuple a items := ⟨_, (N _ hm).1, rfl, n, rfl⟩
theorem less_calls {w : World} {h : Heap} (S : Std w h) {l : Addr} {vs : List Value} {ns : List Int} (hl : h.IsList l vs.toArray) (V : NumsAt h vs ns) (hlen : ns.length ≤ 10) : Calls w 360 (.ref 323) [.none, .ref l] h (fun v _ => v = .ref (if chainV [-1] ns then 67 else 64)) := by
 k_with "e_q" =>
  walk_at "m_enter"
  k_steps
 k_extra "e_Q"
theorem greater_calls {w : World} {h : Heap} (S : Std w h) {l : Addr} {vs : List Value} {ns : List Int} (hl : h.IsList l vs.toArray) (V : NumsAt h vs ns) (hlen : ns.length ≤ 10) : Calls w 360 (.ref 330) [.none, .ref l] h (fun v _ => v = .ref (if chainV [1] ns then 67 else 64)) := by
 k_with "e_q" =>
  walk_at "m_enter"
  k_steps
 k_extra "e_Q"
theorem at_most_calls {w : World} {h : Heap} (S : Std w h) {l : Addr} {vs : List Value} {ns : List Int} (hl : h.IsList l vs.toArray) (V : NumsAt h vs ns) (hlen : ns.length ≤ 10) : Calls w 360 (.ref 337) [.none, .ref l] h (fun v _ => v = .ref (if chainV [-1, 0] ns then 67 else 64)) := by
 k_with "e_q" =>
  walk_at "m_enter"
  k_steps
 k_extra "e_Q"
theorem at_least_calls {w : World} {h : Heap} (S : Std w h) {l : Addr} {vs : List Value} {ns : List Int} (hl : h.IsList l vs.toArray) (V : NumsAt h vs ns) (hlen : ns.length ≤ 10) : Calls w 360 (.ref 344) [.none, .ref l] h (fun v _ => v = .ref (if chainV [0, 1] ns then 67 else 64)) := by
 k_with "e_q" =>
  walk_at "m_enter"
  k_steps
 k_extra "e_Q"
theorem alike_calls {w : World} {h : Heap} (S : Std w h) {l : Addr} {vs : List Value} {ns : List Int} (hl : h.IsList l vs.toArray) (V : NumsAt h vs ns) (hlen : ns.length ≤ 10) : Calls w 360 (.ref 351) [.none, .ref l] h (fun v _ => v = .ref (if chainV [0] ns then 67 else 64)) := by
 k_with "e_q" =>
  walk_at "m_enter"
  k_steps
 k_extra "e_Q"

end Mine.Internal
namespace Mine.Internal
theorem cut_zero {w : World} {h : Heap} (S : Std w h) {n : Int} {t t2 : Tok} : Raises w 390 (.ref 255) [.int n t, .int 0 t2] h (Str.ofString "arith-error") := by
 k_with "e_q" =>
  walk_at "m_renter"
  k_steps
  all_goals walk_at "m_rup"
 k_extra "e_Q"
theorem whole_nil {w : World} {h : Heap} (S : Std w h) : Calls w 400 (.ref 110) [.ref 64] h (fun v _ => v = .bool false) := by
 k_with "e_q" =>
  walk_at "m_enter"
  k_steps
 k_extra "e_Q"
theorem number_nil {w : World} {h : Heap} (S : Std w h) : Raises w 390 (.ref 234) [.ref 64] h (Str.ofString "wrong-type-argument") := by
 k_with "e_q" =>
  walk_at "m_renter"
  k_steps
  all_goals walk_at "m_rup"
 k_extra "e_Q"
theorem fitting_over {w : World} {h : Heap} (S : Std w h) {n : Int} {t : Tok} (hn : (65536 : Int) < Builtin.Int.intBits n) : Raises w 400 (.ref 248) [.int n t] h (Str.ofString "overflow-error") := by
 k_with "e_q" =>
  walk_at "m_renter"
  k_steps
  all_goals walk_at "m_rup"
 k_extra "e_Q"
theorem number_off {w : World} {h : Heap} {a d : Addr} {es : List DictEntry} {k : Nat} (S : Std w h) (h1 : h.get? a = some ⟨.ref 155, some d, .plain, #[]⟩) (h2 : h.get? d = some (dictOf es k))
   (h3 : getL (Str.ofString "buffer") es = some (some .none)) : Raises w 390 (.ref 234) [.ref a] h (Str.ofString "error") := by
 k_with "e_q" =>
  walk_at "m_renter"
  k_steps
  all_goals walk_at "m_rup"
 k_extra "e_Q"
end Mine.Internal
namespace Mine.Internal
theorem get?_upd_ne {h : Heap} {a b : Addr} {f} (n : b ≠ a) : (h.update a f).get? b = h.get? b := Heap.get?_update_ne _ _ _ _ n
theorem reground {h' : Heap} : ∀ (as : List Addr) {g : Heap}, (hideAll g as).StaysIn h' → (∀ b o, g.get? b = some o → b ∈ as → ∃ sl, h'.get? b = some { o with slots := sl }) →
    ∃ g' : Heap, g'.objs.size = g.objs.size ∧ g'.StaysIn h' ∧ (hideAll g as).StaysIn g' ∧ (∀ b o, g.get? b = some o → ∃ sl, g'.get? b = some { o with slots := sl }) ∧ (∀ b, g.get? b = none → g'.get? b = none)
  | [], g, k, _ => ⟨g, rfl, k, fun _ _ q => q, fun b o q => ⟨o.slots, q⟩, fun _ q => q⟩
  | a :: r, g, k, u => by
    cases ha : g.get? a with
    | none =>
      have k1 : (hideAll g r).StaysIn h' := fun b o q => by
        by_cases hb : b = a
        · rw [hb] at q; have := of_hideAll _ q; rw [ha] at this; cases this
        · refine k b o ?_
          by_cases hr : b ∈ r
          · rw [hideAll_none _ hr] at q; cases q
          · exact hideAll_get _ (of_hideAll _ q) fun hm => (List.mem_cons.mp hm).elim hb hr
      obtain ⟨g', x1, x2, x3, x4, x5⟩ := reground r k1 fun b o q hb => u b o q (.tail _ hb)
      refine ⟨g', x1, x2, fun b o q => x3 b o ?_, x4, x5⟩
      refine hideAll_get _ (of_hideAll _ q) fun hm => ?_
      rw [hideAll_none _ (List.mem_cons_of_mem _ hm)] at q; cases q
    | some o =>
      obtain ⟨sl, hsl⟩ := u a o ha (.head _)
      have hfree : ({ o with slots := sl } : Obj).isFreed = false := (Heap.get?_some_iff.mp hsl).2
      have hs : (g.update a fun _ => { o with slots := sl }).get? a = some { o with slots := sl } := Heap.get?_update_self _ ha hfree
      have hne : ∀ b, b ≠ a → (g.update a fun _ => { o with slots := sl }).get? b = g.get? b := fun b hb => get?_upd_ne hb
      have k1 : (hideAll (g.update a fun _ => { o with slots := sl }) r).StaysIn h' := fun b o' q => by
        have q' := of_hideAll _ q
        by_cases hb : b = a
        · rw [hb] at q' ⊢; rw [hs] at q'; cases q'; exact hsl
        · rw [hne b hb] at q'
          refine k b o' (hideAll_get _ q' fun hm => ?_)
          rcases List.mem_cons.mp hm with h | h
          · exact hb h
          · rw [hideAll_none _ h] at q; cases q
      obtain ⟨g', x1, x2, x3, x4, x5⟩ := reground r k1 fun b o' q hb => by
        by_cases hba : b = a
        · rw [hba] at q ⊢; rw [hs] at q; cases q; exact ⟨sl, hsl⟩
        · rw [hne b hba] at q; exact u b o' q (.tail _ hb)
      refine ⟨g', x1.trans (Heap.size_after_update ..), x2, fun b o' q => ?_, fun b o' q => ?_, fun b q => ?_⟩
      · have n : b ∉ a :: r := fun hm => by rw [hideAll_none _ hm] at q; cases q
        refine x3 b o' (hideAll_get _ ?_ fun hm => n (.tail _ hm))
        rw [hne b fun h => n (h ▸ .head _)]; exact of_hideAll _ q
      · by_cases hb : b = a
        · rw [hb] at q ⊢; rw [ha] at q; cases q
          obtain ⟨sl2, e⟩ := x4 a _ hs
          exact ⟨sl2, e⟩
        · exact x4 b o' (by rw [hne b hb]; exact q)
      · refine x5 b ?_
        by_cases hb : b = a
        · rw [hb, ha] at q; cases q
        · rw [hne b hb]; exact q

noncomputable def CallsR (w : World) (n : Nat) (f : Value) (args : List Value) (B : Heap) (P : Value → Heap → Prop) : Prop :=
  ∀ (A : Around) (s : Shared) (l : List Env) (Q E : Value → Shared → Prop), A.handled = none → A.depth ≤ n → A.units ≤ 8 * n → A.frames = some l → B.StaysIn s.heap → s.heap.FunFrames B l →
    (∀ v h' tk', B.StaysIn h' → s.heap.UpToSlots h' → P v h' → Q v { s with heap := h', toks := tk' }) → wpAny (model Challenge.rw_np0089_01.row.prog w) A (call f args) Q E s
noncomputable def RetR (B h : Heap) (P : Value → Heap → Prop) (s : Shared) (v : Value) (s' : Shared) : Prop :=
  ∃ h' tk', s' = { s with heap := h', toks := tk' } ∧ B.StaysIn h' ∧ h.UpToSlots h' ∧ P v h'
structure Gr (B h g : Heap) (l : List Env) : Prop where
  base : B.StaysIn g
  up : h.UpToSlots g
  frames : g.FunFrames B l
theorem RetR.intro {B h g h' : Heap} {l : List Env} {P : Value → Heap → Prop} {s : Shared} {v : Value} {tk' : Nat} {L : Addr} {m : Str → Option Value} (G : Gr B h g l) (F : Fr g L h' m) (p : P v h') : RetR B h P s v { s with heap := h', toks := tk' } :=
  ⟨h', tk', rfl, fun b o q => F.keep b o (G.base b o q), G.up.trans (.of_keeps F.keep), p⟩
theorem CallsR.fn {w : World} {n : Nat} {f : Addr} {args : List Value} {B : Heap} {P : Value → Heap → Prop}
    {name qual : Str} {params : Arguments} {body : List Stmt} {scope : Scope} {dV kV doc pm cdv ct oc : Value} {an od : Option Addr} {osl : Array (Option Value)} {binds : List (Str × Value)}
    (S : Std w B) (ho : (Mine.hd.heap_39 w.params).lookup f = some ⟨oc, od, .func (fnOf name qual params body scope dV kV doc pm an cdv ct), osl⟩)
    (hcd : codeIn (Mine.hd.heap_39 w.params) cdv qual = true) (hroom : n < recursionLimit)
    (hbind : ∀ s, BindsTo s (fnOf name qual params body scope dV kV doc pm an cdv ct) ⟨args, []⟩ binds) (hloc : ∀ y ∈ binds, scope.names.lookup y.1 = some .local)
    (hb : ∀ (L' : Addr) (h h₁ : Heap) (s : Shared) (tk : Nat) (l : List Env), Gr B h h l → Std w h → Fr h L' h₁ (fun y => binds.reverse.lookup y) → News h L' h₁ [] →
      wpAny (model Challenge.rw_np0089_01.row.prog w) ((AtR n l).deeper (envOf qual scope L' f cdv)) (execs body (envOf qual scope L' f cdv))
        (fun fl s' => RetR B h P s (flv fl) s') (fun _ _ => False) { s with heap := h₁, toks := tk })
    (hco : scope.isCoroutine = false) (hgen : scope.isGenerator = false) (hk : scope.kind = .function)
    (hcell : ∀ x ∈ scope.names, x.2 ≠ .cell) : CallsR w n (.ref f) args B P := by
  intro A s l Q E hh hd hu hfr hst hl k
  refine liftR hh hd hu hfr (enter (S.keeps hst) ho hcd hroom hbind hloc (fun L' h₁ tk F => ?_) hco hgen hk hcell)
  refine wpAny_mono (hb L' s.heap h₁ s tk l ⟨hst, .refl _, hl⟩ (S.keeps hst) F (fun _ h => nomatch h)) (fun fl s' r => ?_) fun _ _ x => x.elim
  obtain ⟨h', tk', rfl, a1, a2, a3⟩ := r
  exact k _ _ _ a1 a2 a3

section
variable {w : World} {B h g h' : Heap} {l : List Env} {name : Str} {scope : Scope} {L a : Addr} {cd : Value} {cl : List (Str × Addr)} {s : Shared} {m : Str → Option Value} {news : List (Addr × Obj)}
theorem gr_not {g B : Heap} : ∀ {l : List Env}, g.FunFrames B l → ∀ a, a ∈ frs l → ∃ o, g.get? a = some o ∧ ∀ vs, o.data ≠ .fields vs := fun hl a ha => (hl.mem ha).2
theorem Gr.hidden (G : Gr B h g l) (F : Fr g L h' m) : B.StaysIn (hideAll h' (frs (envX name scope L a cd cl :: l))) := fun b o q => hideAll_get _ (F.keep _ _ (G.base _ _ q)) fun hm => by
  rcases List.mem_cons.mp hm with rfl | hm
  · exact absurd (Nat.lt_of_lt_of_le (Heap.lt_size (G.base _ _ q)) F.above) (Nat.lt_irrefl _)
  · rw [(G.frames.mem hm).1] at q; cases q
theorem Gr.now (G : Gr B h g l) (F : Fr g L s.heap m) (hk : scope.kind ≠ .module) : s.heap.FunFrames (hideAll s.heap (frs (envX name scope L a cd cl :: l))) (envX name scope L a cd cl :: l) := by
  obtain ⟨o, es, ep, e1, e2, _⟩ := F.ns
  have hf : s.heap.FunFrames B (envX name scope L a cd cl :: l) := ⟨hk, ⟨L, o, rfl, by
    cases q : B.get? L with
    | none => rfl
    | some o => exact absurd (Nat.lt_of_lt_of_le (Heap.lt_size (G.base _ _ q)) F.above) (Nat.lt_irrefl _), e1, fun vs q => by rw [e2] at q; cases q⟩, funFrames_up G.frames F.keep⟩
  exact funFrames_hide hf (frames_in hf)
theorem Gr.after (G : Gr B h g l) (F : Fr g L s.heap m) (N : News g L s.heap news) (k : (hideAll s.heap (frs (envX name scope L a cd cl :: l))).StaysIn h') (u : s.heap.UpToSlots h') :
    ∃ g', Gr B h g' l ∧ Fr g' L h' m ∧ News g' L h' news := by
  have nL : ∀ b o, g.get? b = some o → b ≠ L := fun b o q e => absurd (Nat.lt_of_lt_of_le (Heap.lt_size (e ▸ q : g.get? L = some o)) F.above) (Nat.lt_irrefl _)
  have kg : (hideAll g (frs l)).StaysIn h' := fun b o q => k b o (hideAll_get _ (F.keep _ _ (of_hideAll _ q)) fun hm => by
    rcases List.mem_cons.mp hm with hm | hm
    · exact nL _ _ (of_hideAll _ q) hm
    · have : (hideAll g (frs l)).get? b = none := hideAll_none _ hm
      rw [this] at q; cases q)
  obtain ⟨g', x1, x2, x3, x4, x5⟩ := reground (frs l) kg fun b o q hb => u b o (F.keep _ _ q) fun vs e => by
    obtain ⟨o', e1, e2⟩ := gr_not G.frames b hb
    rw [q] at e1; cases e1; exact e2 vs e
  refine ⟨g', ⟨fun b o q => x3 b o (hideAll_get _ (G.base _ _ q) fun hm => by rw [(G.frames.mem hm).1] at q; cases q), G.up.trans fun b o q _ => x4 b o q, G.frames.of_keeps fun b o q _ => let ⟨_, e⟩ := x4 b o q; ⟨_, e, rfl⟩⟩,
    ⟨u.ns F.ns, x2, x1 ▸ F.above⟩, fun p hp => ⟨k _ _ (hideAll_get _ (N p hp).1 fun hm => ?_), (N p hp).2.1, x5 _ (N p hp).2.2⟩⟩
  rcases List.mem_cons.mp hm with hm | hm
  · exact (N p hp).2.1 hm
  · obtain ⟨o', e1, _⟩ := gr_not G.frames _ hm
    rw [(N p hp).2.2] at e1; cases e1
theorem CallsR.use {n : Nat} {f : Value} {args : List Value} {P : Value → Heap → Prop} {A : Around} {Q E : Value → Shared → Prop} (G : Gr B h g l) (F : Fr g L s.heap m) (N : News g L s.heap news) (hfr : A.frames = some (envX name scope L a cd cl :: l)) (hk : scope.kind ≠ .module)
    (C : ∀ D : Heap, B.StaysIn D → (∀ p ∈ news, D.get? p.1 = some p.2) → CallsR w n f args D P)
    (k : ∀ g' v h' tk', P v h' → Gr B h g' l → Fr g' L h' m → News g' L h' news → Q v { s with heap := h', toks := tk' })
    (hh : autoParam (A.handled = none) auR) (hd : autoParam (A.depth ≤ n) auL) (hu : autoParam (A.units ≤ 8 * n) auL) :
    wpAny (model Challenge.rw_np0089_01.row.prog w) A (call f args) Q E s := by
  refine C (hideAll s.heap (frs (envX name scope L a cd cl :: l))) (Gr.hidden G F) (fun p hp => hideAll_get _ (N p hp).1 fun hm => ?_) A s _ Q E hh hd hu hfr (hide_stays _) (Gr.now G F hk) fun v h' tk' k1 k2 p => ?_
  · rcases List.mem_cons.mp hm with hm | hm
    · exact (N p hp).2.1 hm
    · obtain ⟨o', e1, _⟩ := gr_not G.frames _ hm
      rw [(N p hp).2.2] at e1; cases e1
  · obtain ⟨g', a1, a2, a3⟩ := Gr.after G F N k1 k2
    exact k g' v h' tk' p a1 a2 a3
end
end Mine.Internal
namespace Mine.Internal
section
variable {w : World} {B h g h' : Heap} {l : List Env} {name : Str} {scope : Scope} {L a : Addr} {cd : Value} {cl : List (Str × Addr)} {s : Shared} {m : Str → Option Value} {news : List (Addr × Obj)} {A : Around} {sym : Str}
theorem Raises.use {n : Nat} {f : Value} {args : List Value} {Q E : Value → Shared → Prop} (C : Raises w n f args s.heap sym) (G : Gr B h g l) (F : Fr g L s.heap m) (hfr : A.frames = some (envX name scope L a cd cl :: l)) (hk : scope.kind ≠ .module)
    (k : ∀ e h' tk', Flies (hideAll s.heap (frs (envX name scope L a cd cl :: l))) (envX name scope L a cd cl :: l) sym e h' → s.heap.UpToSlots h' → E (.ref e) { s with heap := h', toks := tk' })
    (hh : autoParam (A.handled = none) auR) (hd : autoParam (A.depth ≤ n) auL) (hu : autoParam (A.units ≤ 8 * n) auL) :
    wpAny (model Challenge.rw_np0089_01.row.prog w) A (call f args) Q E s :=
  C A s _ _ Q E hh hd hu hfr (Gr.now G F hk) rfl k
noncomputable def Held (e : Addr) (sym : Str) (h : Heap) : Prop :=
  ∃ oe vs d tk m, h.get? e = some oe ∧ oe.cls = .ref 38 ∧ oe.dict = some d ∧ oe.data = .fields vs ∧ h.Ns d m ∧ m "symbol" = some (.str sym tk)
end
namespace caught_e
noncomputable def zzQ (w : World) (B : Heap) (h : Heap) (g : Heap) (l : List Env) (name : Str) (scope : Scope) (L : Addr) (a : Addr) (cd : Value) (s : Shared) (m : Str → Option Value) (news : List (Addr × Obj)) (A : Around) (sym : Str) (h2 : Heap) (e : Addr) (x : Str) (n : Str) (np : Pos) (pos : Pos) (b₀ : Stmt) (suite : List Stmt) (rest : List ExceptHandler) (Q : Flow → Shared → Prop) (E : Value → Shared → Prop) (tk : Nat) : Prop := ∀ S : Std w B, ∀ G : Gr B h g l, ∀ F : Fr g L s.heap m, ∀ N : News g L s.heap news, ∀ hfr : A.frames = some (envOf name scope L a cd :: l), ∀ ex : nsIn (Mine.hd.heap_39 w.params) mainGlobals x = some (some (.ref 38)), ∀ fl : Flies (hideAll s.heap (frs (envOf name scope L a cd :: l))) (envOf name scope L a cd :: l) sym e h2, ∀ u : s.heap.UpToSlots h2, ∀ k : ∀ g' h' tk', Gr B h g' l → Fr g' L h' (fun y => if y = n then some (.ref e) else m y) → News g' L h' news → Held e sym h' →
      wpAny (model Challenge.rw_np0089_01.row.prog w) (A.mark (some (.ref e))) (execs (b₀ :: suite) (envOf name scope L a cd))
        (fun f s₄ => wpAny (model Challenge.rw_np0089_01.row.prog w) A (do bindName (envOf name scope L a cd) n .none; unbindBehindTheSuite (envOf name scope L a cd) n pos) (fun _ s₅ => Q f s₅) E s₄)
        (fun _ _ => False) { s with heap := h', toks := tk' }, ∀ hk : scope.kind = .function, ∀ hlo : (envOf name scope L a cd).kindOf n = some .local, ∀ hx : (envOf name scope L a cd).kindOf x = some .globalImplicit, ∀ hd : (x == ("__debug__" : Str)) = false, wpAny (model Challenge.rw_np0089_01.row.prog w) A (noteFrame (.ref e) (envOf name scope L a cd))
      (fun _ s₂ => wpAny (model Challenge.rw_np0089_01.row.prog w) A (setFlight (.ref e) none) (fun _ s₃ =>
        wpAny (model Challenge.rw_np0089_01.row.prog w) A (handleBy (.ref e) (envOf name scope L a cd) (.ExceptHandler (some (.Name x np)) (some n) (b₀ :: suite) pos :: rest)) Q E s₃) E s₂) E { s with heap := h2, toks := tk }
noncomputable abbrev zzT : Type := World × Heap × Heap × Heap × (List Env) × Str × Scope × Addr × Addr × Value × Shared × (Str → Option Value) × (List (Addr × Obj)) × Around × Str × Heap × Addr × Str × Str × Pos × Pos × Stmt × (List Stmt) × (List ExceptHandler) × (Flow → Shared → Prop) × (Value → Shared → Prop) × Nat
noncomputable def zzS (z : zzT) : Prop := zzQ z.1 z.2.1 z.2.2.1 z.2.2.2.1 z.2.2.2.2.1 z.2.2.2.2.2.1 z.2.2.2.2.2.2.1 z.2.2.2.2.2.2.2.1 z.2.2.2.2.2.2.2.2.1 z.2.2.2.2.2.2.2.2.2.1 z.2.2.2.2.2.2.2.2.2.2.1 z.2.2.2.2.2.2.2.2.2.2.2.1 z.2.2.2.2.2.2.2.2.2.2.2.2.1 z.2.2.2.2.2.2.2.2.2.2.2.2.2.1 z.2.2.2.2.2.2.2.2.2.2.2.2.2.2.1 z.2.2.2.2.2.2.2.2.2.2.2.2.2.2.2.1 z.2.2.2.2.2.2.2.2.2.2.2.2.2.2.2.2.1 z.2.2.2.2.2.2.2.2.2.2.2.2.2.2.2.2.2.1 z.2.2.2.2.2.2.2.2.2.2.2.2.2.2.2.2.2.2.1 z.2.2.2.2.2.2.2.2.2.2.2.2.2.2.2.2.2.2.2.1 z.2.2.2.2.2.2.2.2.2.2.2.2.2.2.2.2.2.2.2.2.1 z.2.2.2.2.2.2.2.2.2.2.2.2.2.2.2.2.2.2.2.2.2.1 z.2.2.2.2.2.2.2.2.2.2.2.2.2.2.2.2.2.2.2.2.2.2.1 z.2.2.2.2.2.2.2.2.2.2.2.2.2.2.2.2.2.2.2.2.2.2.2.1 z.2.2.2.2.2.2.2.2.2.2.2.2.2.2.2.2.2.2.2.2.2.2.2.2.1 z.2.2.2.2.2.2.2.2.2.2.2.2.2.2.2.2.2.2.2.2.2.2.2.2.2.1 z.2.2.2.2.2.2.2.2.2.2.2.2.2.2.2.2.2.2.2.2.2.2.2.2.2.2
noncomputable def zzc : zzT := @Classical.epsilon zzT ⟨(zw, cN, cN, cN, cN, cN, cN, cN, cN, cN, zs, cN, cN, zA, cN, cN, cN, cN, cN, cN, cN, cN, cN, cN, cN, cN, cN)⟩ fun z => ¬ zzS z
theorem zzcore : zzS zzc := by
  show zzQ _ _ _ _ _ _ _ _ _ _ _ _ _ _ _ _ _ _ _ _ _ _ _ _ _ _ _
  generalize zzc.1 = w; generalize zzc.2.1 = B; generalize zzc.2.2.1 = h; generalize zzc.2.2.2.1 = g; generalize zzc.2.2.2.2.1 = l; generalize zzc.2.2.2.2.2.1 = name; generalize zzc.2.2.2.2.2.2.1 = scope; generalize zzc.2.2.2.2.2.2.2.1 = L; generalize zzc.2.2.2.2.2.2.2.2.1 = a; generalize zzc.2.2.2.2.2.2.2.2.2.1 = cd; generalize zzc.2.2.2.2.2.2.2.2.2.2.1 = s; generalize zzc.2.2.2.2.2.2.2.2.2.2.2.1 = m; generalize zzc.2.2.2.2.2.2.2.2.2.2.2.2.1 = news; generalize zzc.2.2.2.2.2.2.2.2.2.2.2.2.2.1 = A; generalize zzc.2.2.2.2.2.2.2.2.2.2.2.2.2.2.1 = sym; generalize zzc.2.2.2.2.2.2.2.2.2.2.2.2.2.2.2.1 = h2; generalize zzc.2.2.2.2.2.2.2.2.2.2.2.2.2.2.2.2.1 = e; generalize zzc.2.2.2.2.2.2.2.2.2.2.2.2.2.2.2.2.2.1 = x; generalize zzc.2.2.2.2.2.2.2.2.2.2.2.2.2.2.2.2.2.2.1 = n; generalize zzc.2.2.2.2.2.2.2.2.2.2.2.2.2.2.2.2.2.2.2.1 = np; generalize zzc.2.2.2.2.2.2.2.2.2.2.2.2.2.2.2.2.2.2.2.2.1 = pos; generalize zzc.2.2.2.2.2.2.2.2.2.2.2.2.2.2.2.2.2.2.2.2.2.1 = b₀; generalize zzc.2.2.2.2.2.2.2.2.2.2.2.2.2.2.2.2.2.2.2.2.2.2.1 = suite; generalize zzc.2.2.2.2.2.2.2.2.2.2.2.2.2.2.2.2.2.2.2.2.2.2.2.1 = rest; generalize zzc.2.2.2.2.2.2.2.2.2.2.2.2.2.2.2.2.2.2.2.2.2.2.2.2.1 = Q; generalize zzc.2.2.2.2.2.2.2.2.2.2.2.2.2.2.2.2.2.2.2.2.2.2.2.2.2.1 = E; generalize zzc.2.2.2.2.2.2.2.2.2.2.2.2.2.2.2.2.2.2.2.2.2.2.2.2.2.2 = tk
  intro S G F N hfr ex fl u k hk hlo hx hd
  obtain ⟨f1, f2, d, tk0, m0, ⟨nd, _⟩, sg, hn, hv⟩ := fl
  refine noteS (d := d) (outer := l) hfr f2 rfl f1 sg fun h3 b1 b2 b3 b4 => ?_
  refine setS (d := d) b2 b1 b3 fun h4 c1 c2 c3 c4 => ?_
  have hkm : scope.kind ≠ .module := fun q => by rw [hk] at q; cases q
  have u4 := (u.trans b4).trans c4
  obtain ⟨g4, G4, F4, N4⟩ := Gr.after G F N c1 u4
  have S4 := S.keeps G4.base
  obtain ⟨p, lo, me, mg, mb, T⟩ := S4.T
  refine wpAny_handleBy_cons (codeAny_handlers_test (name_K F4 S4.X (topRead_of T) ex ?_ hk hx hd)) (by intro q; cases q)
  have Sg := sig_of (S4.keeps F4.keep)
  obtain ⟨nm, q, sn, sub, ab, col, dd, k0, k1, k2, k3, k5, hC⟩ := Sg.C
  obtain ⟨oe, vs, e1, e2, e3, e4, e5, e6, e7⟩ := id c3
  refine wpAny_excMatches_sub_self hC e1 e2 PySem.F.excBase_Exception.hasBase (codeAny_handlers_suite_as ?_)
  refine wpAny_noRaise ?_
  refine setS (d := d) c2 c1 c3 fun h5 d1 d2 d3 d4 => ?_
  obtain ⟨g5, G5, F5, N5⟩ := Gr.after G F N d1 (u4.trans d4)
  have hLd : ∀ b o, h5.get? b = some o → (∃ vs, o.data = .fields vs) → b ≠ L := fun b o q ⟨vs, r⟩ e => by
    obtain ⟨o', es, ep, e1, e2, _⟩ := F5.ns
    rw [e, e1] at q; cases q; rw [e2] at r; cases r
  obtain ⟨oe, vs, e1, e2, e3, e4, e5, e6, e7⟩ := d3
  have hn5 := ((b4.trans c4).trans d4).ns hn
  refine wpAny_storeName_local hlo F5.ns (fun h6 n6 sb => ?_) (by show (scope.kind == .class || (scope.kind == .module && L != mainGlobals)) = false; rw [hk]; rfl)
  refine wpAny_mono (k g5 h6 _ G5 (F5.set n6 sb) (fun p hp => ⟨(sb.2 _ (N5 p hp).2.1).trans (N5 p hp).1, (N5 p hp).2⟩) ⟨oe, vs, d, tk0, m0, (sb.2 _ (hLd _ _ e1 ⟨_, e4⟩)).trans e1, e2, e3, e4, ?_, hv⟩) (fun _ _ x => x) fun _ _ x => x.elim
  exact hn5.sameBut sb (fun q => nd (q ▸ .head _))
end caught_e
theorem caught {w : World} {B : Heap} {h : Heap} {g : Heap} {l : List Env} {name : Str} {scope : Scope} {L : Addr} {a : Addr} {cd : Value} {s : Shared} {m : Str → Option Value} {news : List (Addr × Obj)} {A : Around} {sym : Str} {h2 : Heap} {e : Addr} {x n : Str} {np pos : Pos} {b₀ : Stmt} {suite : List Stmt} {rest : List ExceptHandler} {Q : Flow → Shared → Prop} {E : Value → Shared → Prop} {tk : Nat}
    (S : Std w B) (G : Gr B h g l) (F : Fr g L s.heap m) (N : News g L s.heap news) (hfr : A.frames = some (envOf name scope L a cd :: l))
    (ex : nsIn (Mine.hd.heap_39 w.params) mainGlobals x = some (some (.ref 38)))
    (fl : Flies (hideAll s.heap (frs (envOf name scope L a cd :: l))) (envOf name scope L a cd :: l) sym e h2) (u : s.heap.UpToSlots h2)
    (k : ∀ g' h' tk', Gr B h g' l → Fr g' L h' (fun y => if y = n then some (.ref e) else m y) → News g' L h' news → Held e sym h' →
      wpAny (model Challenge.rw_np0089_01.row.prog w) (A.mark (some (.ref e))) (execs (b₀ :: suite) (envOf name scope L a cd))
        (fun f s₄ => wpAny (model Challenge.rw_np0089_01.row.prog w) A (do bindName (envOf name scope L a cd) n .none; unbindBehindTheSuite (envOf name scope L a cd) n pos) (fun _ s₅ => Q f s₅) E s₄)
        (fun _ _ => False) { s with heap := h', toks := tk' })
    (hk : scope.kind = .function) (hlo : (envOf name scope L a cd).kindOf n = some .local) (hx : (envOf name scope L a cd).kindOf x = some .globalImplicit) (hd : (x == ("__debug__" : Str)) = false) : wpAny (model Challenge.rw_np0089_01.row.prog w) A (noteFrame (.ref e) (envOf name scope L a cd))
      (fun _ s₂ => wpAny (model Challenge.rw_np0089_01.row.prog w) A (setFlight (.ref e) none) (fun _ s₃ =>
        wpAny (model Challenge.rw_np0089_01.row.prog w) A (handleBy (.ref e) (envOf name scope L a cd) (.ExceptHandler (some (.Name x np)) (some n) (b₀ :: suite) pos :: rest)) Q E s₃) E s₂) E { s with heap := h2, toks := tk } := epsU (P := caught_e.zzS) (by with_unfolding_all exact caught_e.zzcore) (w, B, h, g, l, name, scope, L, a, cd, s, m, news, A, sym, h2, e, x, n, np, pos, b₀, suite, rest, Q, E, tk) S G F N hfr ex fl u k hk hlo hx hd
section
variable {w : World} {B h g h' : Heap} {l : List Env} {name : Str} {scope : Scope} {L a : Addr} {cd : Value} {cl : List (Str × Addr)} {s : Shared} {m : Str → Option Value} {news : List (Addr × Obj)} {A : Around} {sym : Str}
end
theorem told_ok {w : World} {h : Heap} {f : Addr} {o : Obj} {fd : FuncData} {P : Value → Heap → Prop} (S : Std w h) (ho : h.get? f = some o) (hfd : o.data = .func fd) (hf : ∀ h', h.StaysIn h' → Calls w 378 (.ref f) [] h' P) :
    Calls w 377 (.ref 723) [.ref f] h P := by
 k_with "e_q" =>
  revert S ho hfd hf
  revert w h f o fd P
  refine no_implicit_lambda% (epsT6 (ne := ⟨(Mine.Internal.zw, cN, cN, cN, cN, cN)⟩) ?_); generalize pj1 _ = w; generalize pj2 _ = h; generalize pj3 _ = f; generalize pj4 _ = o; generalize pj5 _ = fd; generalize pl6 _ = P
  intro S ho hfd hf
  have zOn : ZOn := .mk
  k_with "m_close" => assumption
  walk_at "m_enter"
  k_steps
  refine callWith_meth0 hfd (Fr.keep zF' _ _ ho) (Calls.use2 (hf _ zF'.keep) zF' zN' fun v h' tk' p F' N' st => ?_)
  k_steps
 k_extra "e_Q"
theorem told_raise {w : World} {B : Heap} {f : Addr} {o : Obj} {fd : FuncData} {sym : Str} (S : Std w B) (ho : B.get? f = some o) (hfd : o.data = .func fd) (hf : ∀ h', B.StaysIn h' → Raises w 378 (.ref f) [] h' sym) :
    CallsR w 377 (.ref 723) [.ref f] B (fun v _ => ∃ tk, v = .str sym tk) := by
 k_with "e_q" =>
  revert S ho hfd hf
  revert w B f o fd sym
  refine no_implicit_lambda% (epsT6 (ne := ⟨(Mine.Internal.zw, cN, cN, cN, cN, cN)⟩) ?_); generalize pj1 _ = w; generalize pj2 _ = B; generalize pj3 _ = f; generalize pj4 _ = o; generalize pj5 _ = fd; generalize pl6 _ = sym
  intro S ho hfd hf
  have zOn : ZOn := .mk
  k_with "m_close" => skip
  walk_at "m_fenter"
  k_steps
  refine callWith_meth0 hfd (Fr.keep zF' _ _ (zG.base _ _ ho)) (Raises.use (hf _ (fun b o q => zF'.keep b o (zG.base b o q))) zG zF' rfl (fun q => by cases q) fun e h' tk' fl u => ?_)
  refine caught S zG zF' zN' rfl (by k_is) fl u (fun g' h3 tk3 G3 F3 N3 hd => ?_) rfl rfl rfl (by decide)
  clear zF' zN' zX zT zG
  have zX := Std.X (S.keeps G3.base)
  have zT := Std.top (S.keeps G3.base)
  k_steps
  obtain ⟨oe, vs, d, tk0, m0, e1, e2, e3, e4, e5, e6⟩ := hd
  have Sg := sig_of ((S.keeps G3.base).keeps F3.keep)
  obtain ⟨nm, q, sn, sub, ab, col, dd, c0, c1, c2, c3, c5, hC⟩ := Sg.C
  refine load_exc F.attrBase_Exception hC Sg.N Sg.ga Sg.gb Sg.sy sy_none e1 e2 e4 e3 e5 e6 rfl ?_
  (repeat walk_at "m_leaf")
  (try dsimp only)
  refine name_goes_keeps F3 N3 (fun h4 v4 F4 N4 => ?_)
  (repeat walk_at "m_leaf")
  (try dsimp only)
  exact RetR.intro G3 F4 ⟨_, rfl⟩
 k_extra "e_Q"
end Mine.Internal
namespace Mine.Internal
noncomputable def FoldBad (_y : Str) (_g : Int → Int → Int) (bad : Nat → Prop) (ns : List Int) : Prop := ∃ i, i < ns.length ∧ bad i
section
variable {prog : Program} {w : World} {A : Around} {E : Value → Shared → Prop} {s : Shared} {env : Env} {h₀ : Heap} {x : Str} {body : List Stmt} {Q : Flow → Shared → Prop}
theorem iter_accR {l : Addr} {vs : List Value} {ns : List Int} {m₀ : Str → Option Value} {news : List (Addr × Obj)} {y : Str} {a₀ : Int} {t₀ : Tok} {g : Int → Int → Int} {bad : Nat → Prop} (hbad : FoldBad y g bad ns)
    (hh : A.handled = none) (hl : s.heap.IsList l vs.toArray) (hL : l ≠ env.locals) (hlen : vs.length = ns.length) (F : Fr h₀ env.locals s.heap m₀) (N : News h₀ env.locals s.heap news) (hy : m₀ y = some (.int a₀ t₀)) (hyx : y ≠ x)
    (turn : ∀ i v n a ta h tk own, ¬ bad i → vs[i]? = some v → ns[i]? = some n → a = (ns.take i).foldl g a₀ → Fr h₀ env.locals h (fun z => if z = x then some v else if z = y then some (.int a ta) else m₀ z) → News h₀ env.locals h (own ++ news) →
      wpAny (model prog w) A (execs body env) (InvPost h₀ env.locals (fun m' => (∃ t', m' y = some (.int (g a n) t')) ∧ ∀ z, z ≠ x → z ≠ y → m' z = m₀ z) (own ++ news) { s with heap := h, toks := tk } Q) E { s with heap := h, toks := tk })
    (turnB : ∀ i v n a ta h tk own, bad i → vs[i]? = some v → ns[i]? = some n → a = (ns.take i).foldl g a₀ → Fr h₀ env.locals h (fun z => if z = x then some v else if z = y then some (.int a ta) else m₀ z) → News h₀ env.locals h (own ++ news) →
      wpAny (model prog w) A (execs body env) (fun _ _ => False) E { s with heap := h, toks := tk }) :
    wpAny (model prog w) A (pyIter (.ref l)) (fun it s₂ => LoopAtV prog w A h₀ env x body Q E it s₂) E s := by
  refine iter_vals (vs := vs) (fun i m => ((∃ t, m y = some (.int ((ns.take i).foldl g a₀) t)) ∧ ∀ z, z ≠ x → z ≠ y → m z = m₀ z) ∧ ∀ j, j < i → ¬ bad j) hh hl hL F N ⟨⟨⟨t₀, by simpa using hy⟩, fun _ _ _ => rfl⟩, fun _ q => absurd q (Nat.not_lt_zero _)⟩ ?_ ?_
  · rintro i v m₁ h tk own hv ⟨⟨⟨ta, ha⟩, hm⟩, hb⟩ F₁ N₁
    have hi : i < ns.length := by rw [← hlen]; exact (List.getElem?_eq_some_iff.mp hv).1
    have hn : ns[i]? = some ns[i] := by simp [hi]
    have e : (fun z => if z = x then some v else m₁ z) = fun z => if z = x then some v else if z = y then some (Value.int ((ns.take i).foldl g a₀) ta) else m₀ z := by
      funext z
      by_cases h1 : z = x
      · simp [h1]
      · simp only [if_neg h1]
        by_cases h2 : z = y
        · subst h2; simp [ha]
        · simp only [if_neg h2]; exact hm z h1 h2
    rw [e] at F₁
    have hs : (ns.take (i + 1)).foldl g a₀ = g ((ns.take i).foldl g a₀) ns[i] := by
      rw [List.take_add_one, List.foldl_append, hn]; rfl
    by_cases hbi : bad i
    · exact wpAny_mono (turnB i v ns[i] _ ta h tk own hbi hv hn rfl F₁ N₁) (fun _ _ f => f.elim) fun _ _ e => e
    · have hbs : ∀ j, j < i + 1 → ¬ bad j := fun j hj => by
        rcases Nat.lt_succ_iff_lt_or_eq.mp hj with h | h
        · exact hb j h
        · rw [h]; exact hbi
      have T := turn i v ns[i] _ ta h tk own hbi hv hn rfl F₁ N₁
      rw [hs]
      have hJ : (fun m => ((∃ t, m y = some (Value.int (g ((ns.take i).foldl g a₀) ns[i]) t)) ∧ ∀ z, z ≠ x → z ≠ y → m z = m₀ z) ∧ ∀ j, j < i + 1 → ¬ bad j) = fun (m : Str → Option Value) => (∃ t, m y = some (Value.int (g ((ns.take i).foldl g a₀) ns[i]) t)) ∧ ∀ z, z ≠ x → z ≠ y → m z = m₀ z := by
        funext m
        exact propext ⟨fun q => q.1, fun q => ⟨q, hbs⟩⟩
      rw [hJ]
      exact T
  · rintro m₁ h tk ⟨_, hb⟩ _ _
    obtain ⟨i, hi, hbi⟩ := hbad
    exact absurd hbi (hb i (by rw [hlen]; exact hi))
end
end Mine.Internal
namespace Mine.Internal
theorem remainder_zero {w : World} {h : Heap} (S : Std w h) {l : Addr} {v v' : Value} {n : Int} (hl : h.IsList l [v, v'].toArray) (V : NumAt h v n) (V' : NumAt h v' 0) : Raises w 380 (.ref 290) [.none, .ref l] h (Str.ofString "arith-error") := by
 k_with "e_q" =>
  revert S hl V V'
  revert w h l v v' n
  refine no_implicit_lambda% (epsT6 (ne := ⟨(Mine.Internal.zw, cN, cN, cN, cN, cN)⟩) ?_); generalize pj1 _ = w; generalize pj2 _ = h; generalize pj3 _ = l; generalize pj4 _ = v; generalize pj5 _ = v'; generalize pl6 _ = n
  intro S hl V V'
  have zOn : ZOn := .mk
  walk_at "m_renter"
  k_steps
 k_extra "e_Q"
theorem modulo_zero {w : World} {h : Heap} (S : Std w h) {l : Addr} {v v' : Value} {n : Int} (hl : h.IsList l [v, v'].toArray) (V : NumAt h v n) (V' : NumAt h v' 0) : Raises w 380 (.ref 297) [.none, .ref l] h (Str.ofString "arith-error") := by
 k_with "e_q" =>
  revert S hl V V'
  revert w h l v v' n
  refine no_implicit_lambda% (epsT6 (ne := ⟨(Mine.Internal.zw, cN, cN, cN, cN, cN)⟩) ?_); generalize pj1 _ = w; generalize pj2 _ = h; generalize pj3 _ = l; generalize pj4 _ = v; generalize pj5 _ = v'; generalize pl6 _ = n
  intro S hl V V'
  have zOn : ZOn := .mk
  walk_at "m_renter"
  k_steps
  all_goals walk_at "m_rup"
 k_extra "e_Q"
theorem quotient1_zero {w : World} {h : Heap} (S : Std w h) {l : Addr} {v : Value} (hl : h.IsList l [v].toArray) (V : NumAt h v 0) : Raises w 380 (.ref 283) [.none, .ref l] h (Str.ofString "arith-error") := by
 k_with "e_q" =>
  revert S hl V
  revert w h l v
  refine no_implicit_lambda% (epsT4 (ne := ⟨(Mine.Internal.zw, cN, cN, cN)⟩) ?_); generalize pj1 _ = w; generalize pj2 _ = h; generalize pj3 _ = l; generalize pl4 _ = v
  intro S hl V
  have zOn : ZOn := .mk
  walk_at "m_renter"
  k_steps
 k_extra "e_Q"
theorem quotient2_zero {w : World} {h : Heap} (S : Std w h) {l : Addr} {v : Value} {n : Int} {vs : List Value} {ns : List Int} (hl : h.IsList l (v :: vs).toArray) (V : NumAt h v n) (VS : NumsAt h vs ns) (h0 : 0 < vs.length) (hlen : vs.length ≤ 10)
    (hb : ∀ m ∈ ns, m.natAbs.log2 < 9000) (hz : 0 ∈ ns) : Raises w 380 (.ref 283) [.none, .ref l] h (Str.ofString "arith-error") := by
 k_with "e_q" =>
  revert S hl V VS h0 hlen hb hz
  revert w h l v n vs ns
  refine no_implicit_lambda% (epsT7 (ne := ⟨(Mine.Internal.zw, cN, cN, cN, cN, cN, cN)⟩) ?_); generalize pj1 _ = w; generalize pj2 _ = h; generalize pj3 _ = l; generalize pj4 _ = v; generalize pj5 _ = n; generalize pj6 _ = vs; generalize pl7 _ = ns
  intro S hl V VS h0 hlen hb hz
  have zOn : ZOn := .mk
  k_with "m_len" => exact NumsAt.len (by assumption)
  k_with "m_item" => (have zV := NumsAt.item (by assumption) zhv zhn; have zne : zn ≠ 0 := (fun q => zbad (q ▸ zhn)); have zlg := hb _ (List.mem_of_getElem? zhn))
  k_with "m_bad" => (have zV := NumsAt.item (by assumption) zhv zhn; have zn0 : zn = 0 := Option.some.inj (Eq.trans (Eq.symm zhn) zbad); subst zn0)
  have hg : FoldBad (Str.ofString "found") (fun a n => cutV a n) (fun i => ns[i]? = some 0) ns := by
    obtain ⟨i, hi⟩ := List.getElem?_of_mem hz
    exact ⟨i, (List.getElem?_eq_some_iff.mp hi).1, hi⟩
  walk_at "m_renter"
  k_steps
 k_extra "e_Q"
theorem plus_nil {w : World} {h : Heap} (S : Std w h) {l : Addr} {t : Tok} (hl : h.IsList l [Value.int 1 t, .ref 64].toArray) : Raises w 380 (.ref 262) [.none, .ref l] h (Str.ofString "wrong-type-argument") := by
 k_with "e_q" =>
  revert S hl
  revert w h l t
  refine no_implicit_lambda% (epsT4 (ne := ⟨(Mine.Internal.zw, cN, cN, cN)⟩) ?_); generalize pj1 _ = w; generalize pj2 _ = h; generalize pj3 _ = l; generalize pl4 _ = t
  intro S hl
  have zOn : ZOn := .mk
  k_with "m_len" => skip
  k_with "m_item" => skip
  k_with "m_bad" => skip
  k_with "m_len" => rfl
  k_with "m_item" => (have zi0 : zi = 0 := (by have := (List.getElem?_eq_some_iff.mp zhn).1; simp only [List.length_cons, List.length_nil] at this; lia); subst zi0; cases zhv; cases zhn; subst zha; have zV := NumAt.int (h := h) 1 t; have zb : (Builtin.Int.intBits ((([1, 0] : List Int).take 0).foldl (fun a n => a + n) 0 + 1) : Int) ≤ 65536 := (by decide))
  k_with "m_bad" => (have zi0 : zi = 1 := zbad; subst zi0; cases zhv)
  have hg : FoldBad (Str.ofString "found") (fun a n => a + n) (fun i => i = 1) [1, 0] := ⟨1, by decide, rfl⟩
  walk_at "m_renter"
  k_steps
 k_extra "e_Q"
end Mine.Internal
namespace Mine.Internal
noncomputable def WholeAt (v : Value) (n : Int) : Prop := ∃ t, v = .int n t
theorem whole_at {w : World} {h : Heap} (S : Std w h) {v : Value} {x : Int} (V : WholeAt v x) : Calls w 390 (.ref 241) [v] h (fun v _ => ∃ t, v = .int x t) := by
  obtain ⟨t, rfl⟩ := V
  exact whole S
theorem shr_close {n c : Int} {t : Tok} (h : ¬ (65536 + 1 : Int) < 0 - c) : flv (.ret (.int (n.fdiv (2 ^ (if (65536 : Int) + 1 < 0 - c then 65536 + 1 else 0 - c).toNat)) t)) = .int (n.fdiv (2 ^ (0 - c).toNat)) t := by
  rw [if_neg h]; rfl
theorem shift_neg {w : World} {h : Heap} (S : Std w h) {l : Addr} {v v' : Value} {n c : Int} (hl : h.IsList l [v, v'].toArray) (V : WholeAt v n) (V' : WholeAt v' c) (hc : c < 0) (hc2 : -1000 ≤ c) : Calls w 380 (.ref 410) [.none, .ref l] h (fun v _ => ∃ t, v = .int (Int.fdiv n (2 ^ (0 - c).toNat)) t) := by
 k_with "e_q" =>
  revert S hl V V' hc hc2
  revert w h l v v' n c
  refine no_implicit_lambda% (epsT7 (ne := ⟨(Mine.Internal.zw, cN, cN, cN, cN, cN, cN)⟩) ?_); generalize pj1 _ = w; generalize pj2 _ = h; generalize pj3 _ = l; generalize pj4 _ = v; generalize pj5 _ = v'; generalize pj6 _ = n; generalize pl7 _ = c
  intro S hl V V' hc hc2
  have zOn : ZOn := .mk
  k_with "m_close" => exact ⟨_, shr_close (by omega)⟩
  walk_at "m_enter"
  k_steps
 k_extra "e_Q"
theorem shift_pos {w : World} {h : Heap} (S : Std w h) {l : Addr} {v v' : Value} {n c : Int} (hl : h.IsList l [v, v'].toArray) (V : WholeAt v n) (V' : WholeAt v' c) (hc : 0 ≤ c) (hc2 : c ≤ 1000) (hn : n ≠ 0) (hb : (Builtin.Int.intBits n : Int) + c ≤ 2 ^ 27) (hf : (Builtin.Int.intBits (n * 2 ^ c.toNat) : Int) ≤ 65536) : Calls w 380 (.ref 410) [.none, .ref l] h (fun v _ => ∃ t, v = .int (n * 2 ^ c.toNat) t) := by
 k_with "e_q" =>
  revert S hl V V' hc hc2 hn hb hf
  revert w h l v v' n c
  refine no_implicit_lambda% (epsT7 (ne := ⟨(Mine.Internal.zw, cN, cN, cN, cN, cN, cN)⟩) ?_); generalize pj1 _ = w; generalize pj2 _ = h; generalize pj3 _ = l; generalize pj4 _ = v; generalize pj5 _ = v'; generalize pj6 _ = n; generalize pl7 _ = c
  intro S hl V V' hc hc2 hn hb hf
  have zOn : ZOn := .mk
  k_with "m_close" => skip
  walk_at "m_enter"
  k_steps
 k_extra "e_Q"
theorem shift_zero {w : World} {h : Heap} (S : Std w h) {l : Addr} {v v' : Value} {c : Int} (hl : h.IsList l [v, v'].toArray) (V : WholeAt v 0) (V' : WholeAt v' c) (hc : 0 ≤ c) : Calls w 380 (.ref 410) [.none, .ref l] h (fun v _ => ∃ t, v = .int 0 t) := by
 k_with "e_q" =>
  revert S hl V V' hc
  revert w h l v v' c
  refine no_implicit_lambda% (epsT6 (ne := ⟨(Mine.Internal.zw, cN, cN, cN, cN, cN)⟩) ?_); generalize pj1 _ = w; generalize pj2 _ = h; generalize pj3 _ = l; generalize pj4 _ = v; generalize pj5 _ = v'; generalize pl6 _ = c
  intro S hl V V' hc
  have zOn : ZOn := .mk
  walk_at "m_enter"
  k_steps
 k_extra "e_Q"
theorem shift_over {w : World} {h : Heap} (S : Std w h) {l : Addr} {v v' : Value} {n c : Int} (hl : h.IsList l [v, v'].toArray) (V : WholeAt v n) (V' : WholeAt v' c) (hc : 65536 < c) (hn : n ≠ 0) : Raises w 380 (.ref 410) [.none, .ref l] h (Str.ofString "overflow-error") := by
 k_with "e_q" =>
  revert S hl V V' hc hn
  revert w h l v v' n c
  refine no_implicit_lambda% (epsT7 (ne := ⟨(Mine.Internal.zw, cN, cN, cN, cN, cN, cN)⟩) ?_); generalize pj1 _ = w; generalize pj2 _ = h; generalize pj3 _ = l; generalize pj4 _ = v; generalize pj5 _ = v'; generalize pj6 _ = n; generalize pl7 _ = c
  intro S hl V V' hc hn
  have zOn : ZOn := .mk
  walk_at "m_renter"
  k_steps
  all_goals walk_at "m_rup"
 k_extra "e_Q"
end Mine.Internal
namespace Mine.Internal
theorem News.tail1 {h₀ h : Heap} {L : Addr} {p : Addr × Obj} {news : List (Addr × Obj)} (N : News h₀ L h (p :: news)) : News h₀ L h news := fun q hq => N q (.tail _ hq)
theorem News.tail2 {h₀ h : Heap} {L : Addr} {p p' : Addr × Obj} {news : List (Addr × Obj)} (N : News h₀ L h (p :: p' :: news)) : News h₀ L h news := fun q hq => N q (.tail _ (.tail _ hq))
noncomputable def While2 (_x _y : Str) (R : Nat → Int → Int → Prop) (a₀ b₀ : Int) : Prop := ∃ n, R n a₀ b₀
noncomputable def While3 (_x _y _z : Str) (R : Nat → Int → Int → Int → Prop) (a₀ b₀ c₀ : Int) : Prop := ∃ n, R n a₀ b₀ c₀
inductive Names2 (x y : Str) : Prop
  | mk
inductive Names3 (x y z : Str) : Prop
  | mk
noncomputable def WPost2 (h₀ : Heap) (L : Addr) (news : List (Addr × Obj)) (x y : Str) (m₀ : Str → Option Value) (R : Nat → Int → Int → Prop) (n : Nat) (s : Shared) (f : Flow) (s' : Shared) : Prop :=
  f = .next ∧ ∃ h' tk m a b ta tb, s' = { s with heap := h', toks := tk } ∧ Fr h₀ L h' m ∧ News h₀ L h' news ∧ m x = some (.int a ta) ∧ m y = some (.int b tb) ∧ (∀ z, z ≠ x → z ≠ y → m z = m₀ z) ∧ ∃ n', n' < n ∧ R n' a b
noncomputable def WPost3 (h₀ : Heap) (L : Addr) (news : List (Addr × Obj)) (x y z : Str) (m₀ : Str → Option Value) (R : Nat → Int → Int → Int → Prop) (n : Nat) (s : Shared) (f : Flow) (s' : Shared) : Prop :=
  f = .next ∧ ∃ h' tk m a b c ta tb tc, s' = { s with heap := h', toks := tk } ∧ Fr h₀ L h' m ∧ News h₀ L h' news ∧ m x = some (.int a ta) ∧ m y = some (.int b tb) ∧ m z = some (.int c tc) ∧ (∀ q, q ≠ x → q ≠ y → q ≠ z → m q = m₀ q) ∧ ∃ n', n' < n ∧ R n' a b c
section
variable {h₀ h' : Heap} {L : Addr} {news : List (Addr × Obj)} {x y z : Str} {m m₀ : Str → Option Value} {n tk : Nat} {s : Shared} {a b c : Int} {ta tb tc : Tok}
theorem WPost2.intro {R : Nat → Int → Int → Prop} (F : Fr h₀ L h' m) (N : News h₀ L h' news) (h1 : m x = some (.int a ta)) (h2 : m y = some (.int b tb)) (h3 : ∀ z, z ≠ x → z ≠ y → m z = m₀ z) (h4 : ∃ n', n' < n ∧ R n' a b) :
    WPost2 h₀ L news x y m₀ R n s .next { s with heap := h', toks := tk } := ⟨rfl, h', tk, m, a, b, ta, tb, rfl, F, N, h1, h2, h3, h4⟩
theorem WPost3.intro {R : Nat → Int → Int → Int → Prop} (F : Fr h₀ L h' m) (N : News h₀ L h' news) (h1 : m x = some (.int a ta)) (h2 : m y = some (.int b tb)) (hc : m z = some (.int c tc)) (h3 : ∀ q, q ≠ x → q ≠ y → q ≠ z → m q = m₀ q) (h4 : ∃ n', n' < n ∧ R n' a b c) :
    WPost3 h₀ L news x y z m₀ R n s .next { s with heap := h', toks := tk } := ⟨rfl, h', tk, m, a, b, c, ta, tb, tc, rfl, F, N, h1, h2, hc, h3, h4⟩
end
section
variable {prog : Program} {w : World} {A : Around} {E : Value → Shared → Prop} {s : Shared} {env : Env} {h₀ : Heap} {body : List Stmt} {Q : Flow → Shared → Prop} {test : Expr} {pos : Pos}
end
namespace while2_e
noncomputable def zzQ (prog : Program) (w : World) (A : Around) (E : Value → Shared → Prop) (s : Shared) (env : Env) (h₀ : Heap) (body : List Stmt) (Q : Flow → Shared → Prop) (test : Expr) (pos : Pos) (x : Str) (y : Str) (R : Nat → Int → Int → Prop) (a₀ : Int) (b₀ : Int) (t₀ : Tok) (u₀ : Tok) (m₀ : Str → Option Value) (news : List (Addr × Obj)) : Prop := ∀ x_0 : Names2 x y, ∀ F : Fr h₀ env.locals s.heap m₀, ∀ N : News h₀ env.locals s.heap news, ∀ hx : m₀ x = some (.int a₀ t₀), ∀ hy : m₀ y = some (.int b₀ u₀), ∀ hxy : x ≠ y, ∀ hR : While2 x y R a₀ b₀, ∀ turn : ∀ n a b ta tb h tk, R n a b → Fr h₀ env.locals h (fun z => if z = x then some (.int a ta) else if z = y then some (.int b tb) else m₀ z) → News h₀ env.locals h news →
      wpAny (model prog w) A (isTrue test env (eval test env)) (fun bb s₂ =>
        if bb = true then wpAny (model prog w) A (execs body env) (WPost2 h₀ env.locals news x y m₀ R n s) E s₂ else Q .next s₂) E { s with heap := h, toks := tk }, ∀ hE : PassesOwn (model prog w) A env E, wpAny (model prog w) A (exec (.While test body [] pos) env) Q E s
noncomputable abbrev zzT : Type := Program × World × Around × (Value → Shared → Prop) × Shared × Env × Heap × (List Stmt) × (Flow → Shared → Prop) × Expr × Pos × Str × Str × (Nat → Int → Int → Prop) × Int × Int × Tok × Tok × (Str → Option Value) × (List (Addr × Obj))
noncomputable def zzS (z : zzT) : Prop := zzQ z.1 z.2.1 z.2.2.1 z.2.2.2.1 z.2.2.2.2.1 z.2.2.2.2.2.1 z.2.2.2.2.2.2.1 z.2.2.2.2.2.2.2.1 z.2.2.2.2.2.2.2.2.1 z.2.2.2.2.2.2.2.2.2.1 z.2.2.2.2.2.2.2.2.2.2.1 z.2.2.2.2.2.2.2.2.2.2.2.1 z.2.2.2.2.2.2.2.2.2.2.2.2.1 z.2.2.2.2.2.2.2.2.2.2.2.2.2.1 z.2.2.2.2.2.2.2.2.2.2.2.2.2.2.1 z.2.2.2.2.2.2.2.2.2.2.2.2.2.2.2.1 z.2.2.2.2.2.2.2.2.2.2.2.2.2.2.2.2.1 z.2.2.2.2.2.2.2.2.2.2.2.2.2.2.2.2.2.1 z.2.2.2.2.2.2.2.2.2.2.2.2.2.2.2.2.2.2.1 z.2.2.2.2.2.2.2.2.2.2.2.2.2.2.2.2.2.2.2
noncomputable def zzc : zzT := @Classical.epsilon zzT ⟨(cN, zw, zA, cN, zs, cN, cN, cN, cN, cN, cN, cN, cN, cN, cN, cN, cN, cN, cN, cN)⟩ fun z => ¬ zzS z
@[irreducible] def prog : Program := zzc.1
@[irreducible] def w : World := zzc.2.1
@[irreducible] def A : Around := zzc.2.2.1
@[irreducible] def E : Value → Shared → Prop := zzc.2.2.2.1
@[irreducible] def s : Shared := zzc.2.2.2.2.1
@[irreducible] def env : Env := zzc.2.2.2.2.2.1
@[irreducible] def h₀ : Heap := zzc.2.2.2.2.2.2.1
@[irreducible] def body : List Stmt := zzc.2.2.2.2.2.2.2.1
@[irreducible] def Q : Flow → Shared → Prop := zzc.2.2.2.2.2.2.2.2.1
@[irreducible] def test : Expr := zzc.2.2.2.2.2.2.2.2.2.1
@[irreducible] def pos : Pos := zzc.2.2.2.2.2.2.2.2.2.2.1
@[irreducible] def x : Str := zzc.2.2.2.2.2.2.2.2.2.2.2.1
@[irreducible] def y : Str := zzc.2.2.2.2.2.2.2.2.2.2.2.2.1
@[irreducible] def R : Nat → Int → Int → Prop := zzc.2.2.2.2.2.2.2.2.2.2.2.2.2.1
@[irreducible] def a₀ : Int := zzc.2.2.2.2.2.2.2.2.2.2.2.2.2.2.1
@[irreducible] def b₀ : Int := zzc.2.2.2.2.2.2.2.2.2.2.2.2.2.2.2.1
@[irreducible] def t₀ : Tok := zzc.2.2.2.2.2.2.2.2.2.2.2.2.2.2.2.2.1
@[irreducible] def u₀ : Tok := zzc.2.2.2.2.2.2.2.2.2.2.2.2.2.2.2.2.2.1
@[irreducible] def m₀ : Str → Option Value := zzc.2.2.2.2.2.2.2.2.2.2.2.2.2.2.2.2.2.2.1
@[irreducible] def news : List (Addr × Obj) := zzc.2.2.2.2.2.2.2.2.2.2.2.2.2.2.2.2.2.2.2
theorem zzcore : zzQ prog w A E s env h₀ body Q test pos x y R a₀ b₀ t₀ u₀ m₀ news := by
  intro _ F N hx hy hxy hR turn hE
  obtain ⟨n₀, hR⟩ := hR
  refine While_inv (h₀ := h₀) (L := env.locals) (fun n m nw => nw = news ∧ ∃ a b ta tb, R n a b ∧ m = fun z => if z = x then some (Value.int a ta) else if z = y then some (.int b tb) else m₀ z) F N ⟨rfl, a₀, b₀, t₀, u₀, hR, ?_⟩ ?_ hE
  · funext z
    by_cases h1 : z = x
    · subst h1; simp [hx]
    · by_cases h2 : z = y
      · subst h2; simp [h1, hy]
      · simp [h1, h2]
  · rintro n m₁ news₁ h₁ tk₁ F₁ N₁ ⟨rfl, a, b, ta, tb, hr, rfl⟩
    refine wpAny_mono (turn n a b ta tb h₁ tk₁ hr F₁ N₁) (fun bb s₂ h₂ => ?_) fun _ _ e => e
    cases bb with
    | false => exact h₂
    | true =>
      simp only [if_true] at h₂ ⊢
      refine wpAny_mono h₂ (fun f s₃ h₃ => ?_) fun _ _ e => e
      obtain ⟨rfl, h', tk, m, a', b', ta', tb', rfl, F', N', e1, e2, e3, n', hn, hr'⟩ := h₃
      refine WhileStep.intro F' N' hn ⟨rfl, a', b', ta', tb', hr', ?_⟩
      funext z
      by_cases h1 : z = x
      · subst h1; simp [e1]
      · by_cases h2 : z = y
        · subst h2; simp [h1, e2]
        · simp [h1, h2, e3 z h1 h2]
end while2_e
theorem while2 {prog : Program} {w : World} {A : Around} {E : Value → Shared → Prop} {s : Shared} {env : Env} {h₀ : Heap} {body : List Stmt} {Q : Flow → Shared → Prop} {test : Expr} {pos : Pos} {x y : Str} {R : Nat → Int → Int → Prop} {a₀ b₀ : Int} {t₀ u₀ : Tok} {m₀ : Str → Option Value} {news : List (Addr × Obj)} (_ : Names2 x y) (F : Fr h₀ env.locals s.heap m₀) (N : News h₀ env.locals s.heap news)
    (hx : m₀ x = some (.int a₀ t₀)) (hy : m₀ y = some (.int b₀ u₀)) (hxy : x ≠ y) (hR : While2 x y R a₀ b₀)
    (turn : ∀ n a b ta tb h tk, R n a b → Fr h₀ env.locals h (fun z => if z = x then some (.int a ta) else if z = y then some (.int b tb) else m₀ z) → News h₀ env.locals h news →
      wpAny (model prog w) A (isTrue test env (eval test env)) (fun bb s₂ =>
        if bb = true then wpAny (model prog w) A (execs body env) (WPost2 h₀ env.locals news x y m₀ R n s) E s₂ else Q .next s₂) E { s with heap := h, toks := tk })
    (hE : PassesOwn (model prog w) A env E) : wpAny (model prog w) A (exec (.While test body [] pos) env) Q E s := epsU (P := while2_e.zzS) (by with_unfolding_all exact while2_e.zzcore) (prog, w, A, E, s, env, h₀, body, Q, test, pos, x, y, R, a₀, b₀, t₀, u₀, m₀, news) ‹_› F N hx hy hxy hR turn hE
section
variable {prog : Program} {w : World} {A : Around} {E : Value → Shared → Prop} {s : Shared} {env : Env} {h₀ : Heap} {body : List Stmt} {Q : Flow → Shared → Prop} {test : Expr} {pos : Pos}
end
namespace while3_e
noncomputable def zzQ (prog : Program) (w : World) (A : Around) (E : Value → Shared → Prop) (s : Shared) (env : Env) (h₀ : Heap) (body : List Stmt) (Q : Flow → Shared → Prop) (test : Expr) (pos : Pos) (x : Str) (y : Str) (z : Str) (R : Nat → Int → Int → Int → Prop) (a₀ : Int) (b₀ : Int) (c₀ : Int) (t₀ : Tok) (u₀ : Tok) (v₀ : Tok) (m₀ : Str → Option Value) (news : List (Addr × Obj)) : Prop := ∀ x_0 : Names3 x y z, ∀ F : Fr h₀ env.locals s.heap m₀, ∀ N : News h₀ env.locals s.heap news, ∀ hx : m₀ x = some (.int a₀ t₀), ∀ hy : m₀ y = some (.int b₀ u₀), ∀ hz : m₀ z = some (.int c₀ v₀), ∀ hxy : x ≠ y, ∀ hxz : x ≠ z, ∀ hyz : y ≠ z, ∀ hR : While3 x y z R a₀ b₀ c₀, ∀ turn : ∀ n a b c ta tb tc h tk, R n a b c → Fr h₀ env.locals h (fun q => if q = x then some (.int a ta) else if q = y then some (.int b tb) else if q = z then some (.int c tc) else m₀ q) → News h₀ env.locals h news →
      wpAny (model prog w) A (isTrue test env (eval test env)) (fun bb s₂ =>
        if bb = true then wpAny (model prog w) A (execs body env) (WPost3 h₀ env.locals news x y z m₀ R n s) E s₂ else Q .next s₂) E { s with heap := h, toks := tk }, ∀ hE : PassesOwn (model prog w) A env E, wpAny (model prog w) A (exec (.While test body [] pos) env) Q E s
noncomputable abbrev zzT : Type := Program × World × Around × (Value → Shared → Prop) × Shared × Env × Heap × (List Stmt) × (Flow → Shared → Prop) × Expr × Pos × Str × Str × Str × (Nat → Int → Int → Int → Prop) × Int × Int × Int × Tok × Tok × Tok × (Str → Option Value) × (List (Addr × Obj))
noncomputable def zzS (z : zzT) : Prop := zzQ z.1 z.2.1 z.2.2.1 z.2.2.2.1 z.2.2.2.2.1 z.2.2.2.2.2.1 z.2.2.2.2.2.2.1 z.2.2.2.2.2.2.2.1 z.2.2.2.2.2.2.2.2.1 z.2.2.2.2.2.2.2.2.2.1 z.2.2.2.2.2.2.2.2.2.2.1 z.2.2.2.2.2.2.2.2.2.2.2.1 z.2.2.2.2.2.2.2.2.2.2.2.2.1 z.2.2.2.2.2.2.2.2.2.2.2.2.2.1 z.2.2.2.2.2.2.2.2.2.2.2.2.2.2.1 z.2.2.2.2.2.2.2.2.2.2.2.2.2.2.2.1 z.2.2.2.2.2.2.2.2.2.2.2.2.2.2.2.2.1 z.2.2.2.2.2.2.2.2.2.2.2.2.2.2.2.2.2.1 z.2.2.2.2.2.2.2.2.2.2.2.2.2.2.2.2.2.2.1 z.2.2.2.2.2.2.2.2.2.2.2.2.2.2.2.2.2.2.2.1 z.2.2.2.2.2.2.2.2.2.2.2.2.2.2.2.2.2.2.2.2.1 z.2.2.2.2.2.2.2.2.2.2.2.2.2.2.2.2.2.2.2.2.2.1 z.2.2.2.2.2.2.2.2.2.2.2.2.2.2.2.2.2.2.2.2.2.2
noncomputable def zzc : zzT := @Classical.epsilon zzT ⟨(cN, zw, zA, cN, zs, cN, cN, cN, cN, cN, cN, cN, cN, cN, cN, cN, cN, cN, cN, cN, cN, cN, cN)⟩ fun z => ¬ zzS z
@[irreducible] def prog : Program := zzc.1
@[irreducible] def w : World := zzc.2.1
@[irreducible] def A : Around := zzc.2.2.1
@[irreducible] def E : Value → Shared → Prop := zzc.2.2.2.1
@[irreducible] def s : Shared := zzc.2.2.2.2.1
@[irreducible] def env : Env := zzc.2.2.2.2.2.1
@[irreducible] def h₀ : Heap := zzc.2.2.2.2.2.2.1
@[irreducible] def body : List Stmt := zzc.2.2.2.2.2.2.2.1
@[irreducible] def Q : Flow → Shared → Prop := zzc.2.2.2.2.2.2.2.2.1
@[irreducible] def test : Expr := zzc.2.2.2.2.2.2.2.2.2.1
@[irreducible] def pos : Pos := zzc.2.2.2.2.2.2.2.2.2.2.1
@[irreducible] def x : Str := zzc.2.2.2.2.2.2.2.2.2.2.2.1
@[irreducible] def y : Str := zzc.2.2.2.2.2.2.2.2.2.2.2.2.1
@[irreducible] def z : Str := zzc.2.2.2.2.2.2.2.2.2.2.2.2.2.1
@[irreducible] def R : Nat → Int → Int → Int → Prop := zzc.2.2.2.2.2.2.2.2.2.2.2.2.2.2.1
@[irreducible] def a₀ : Int := zzc.2.2.2.2.2.2.2.2.2.2.2.2.2.2.2.1
@[irreducible] def b₀ : Int := zzc.2.2.2.2.2.2.2.2.2.2.2.2.2.2.2.2.1
@[irreducible] def c₀ : Int := zzc.2.2.2.2.2.2.2.2.2.2.2.2.2.2.2.2.2.1
@[irreducible] def t₀ : Tok := zzc.2.2.2.2.2.2.2.2.2.2.2.2.2.2.2.2.2.2.1
@[irreducible] def u₀ : Tok := zzc.2.2.2.2.2.2.2.2.2.2.2.2.2.2.2.2.2.2.2.1
@[irreducible] def v₀ : Tok := zzc.2.2.2.2.2.2.2.2.2.2.2.2.2.2.2.2.2.2.2.2.1
@[irreducible] def m₀ : Str → Option Value := zzc.2.2.2.2.2.2.2.2.2.2.2.2.2.2.2.2.2.2.2.2.2.1
@[irreducible] def news : List (Addr × Obj) := zzc.2.2.2.2.2.2.2.2.2.2.2.2.2.2.2.2.2.2.2.2.2.2
theorem zzcore : zzQ prog w A E s env h₀ body Q test pos x y z R a₀ b₀ c₀ t₀ u₀ v₀ m₀ news := by
  intro _ F N hx hy hz hxy hxz hyz hR turn hE
  obtain ⟨n₀, hR⟩ := hR
  refine While_inv (h₀ := h₀) (L := env.locals) (fun n m nw => nw = news ∧ ∃ a b c ta tb tc, R n a b c ∧ m = fun q => if q = x then some (Value.int a ta) else if q = y then some (.int b tb) else if q = z then some (.int c tc) else m₀ q) F N ⟨rfl, a₀, b₀, c₀, t₀, u₀, v₀, hR, ?_⟩ ?_ hE
  · funext q
    by_cases h1 : q = x
    · subst h1; simp [hx]
    · by_cases h2 : q = y
      · subst h2; simp [h1, hy]
      · by_cases h3 : q = z
        · subst h3; simp [h1, h2, hz]
        · simp [h1, h2, h3]
  · rintro n m₁ news₁ h₁ tk₁ F₁ N₁ ⟨rfl, a, b, c, ta, tb, tc, hr, rfl⟩
    refine wpAny_mono (turn n a b c ta tb tc h₁ tk₁ hr F₁ N₁) (fun bb s₂ h₂ => ?_) fun _ _ e => e
    cases bb with
    | false => exact h₂
    | true =>
      simp only [if_true] at h₂ ⊢
      refine wpAny_mono h₂ (fun f s₃ h₃ => ?_) fun _ _ e => e
      obtain ⟨rfl, h', tk, m, a', b', c', ta', tb', tc', rfl, F', N', e1, e2, e3, e4, n', hn, hr'⟩ := h₃
      refine WhileStep.intro F' N' hn ⟨rfl, a', b', c', ta', tb', tc', hr', ?_⟩
      funext q
      by_cases h1 : q = x
      · subst h1; simp [e1]
      · by_cases h2 : q = y
        · subst h2; simp [h1, e2]
        · by_cases h3 : q = z
          · subst h3; simp [h1, h2, e3]
          · simp [h1, h2, h3, e4 q h1 h2 h3]
end while3_e
theorem while3 {prog : Program} {w : World} {A : Around} {E : Value → Shared → Prop} {s : Shared} {env : Env} {h₀ : Heap} {body : List Stmt} {Q : Flow → Shared → Prop} {test : Expr} {pos : Pos} {x y z : Str} {R : Nat → Int → Int → Int → Prop} {a₀ b₀ c₀ : Int} {t₀ u₀ v₀ : Tok} {m₀ : Str → Option Value} {news : List (Addr × Obj)} (_ : Names3 x y z) (F : Fr h₀ env.locals s.heap m₀) (N : News h₀ env.locals s.heap news)
    (hx : m₀ x = some (.int a₀ t₀)) (hy : m₀ y = some (.int b₀ u₀)) (hz : m₀ z = some (.int c₀ v₀)) (hxy : x ≠ y) (hxz : x ≠ z) (hyz : y ≠ z) (hR : While3 x y z R a₀ b₀ c₀)
    (turn : ∀ n a b c ta tb tc h tk, R n a b c → Fr h₀ env.locals h (fun q => if q = x then some (.int a ta) else if q = y then some (.int b tb) else if q = z then some (.int c tc) else m₀ q) → News h₀ env.locals h news →
      wpAny (model prog w) A (isTrue test env (eval test env)) (fun bb s₂ =>
        if bb = true then wpAny (model prog w) A (execs body env) (WPost3 h₀ env.locals news x y z m₀ R n s) E s₂ else Q .next s₂) E { s with heap := h, toks := tk })
    (hE : PassesOwn (model prog w) A env E) : wpAny (model prog w) A (exec (.While test body [] pos) env) Q E s := epsU (P := while3_e.zzS) (by with_unfolding_all exact while3_e.zzcore) (prog, w, A, E, s, env, h₀, body, Q, test, pos, x, y, z, R, a₀, b₀, c₀, t₀, u₀, v₀, m₀, news) ‹_› F N hx hy hz hxy hxz hyz hR turn hE
section
variable {prog : Program} {w : World} {A : Around} {E : Value → Shared → Prop} {s : Shared} {env : Env} {h₀ : Heap} {body : List Stmt} {Q : Flow → Shared → Prop} {test : Expr} {pos : Pos}
end
end Mine.Internal
namespace Mine.Internal
noncomputable def popF : Nat → Nat → Nat
  | 0, _ => 0
  | k + 1, n => n % 2 + popF k (n / 2)
theorem popF_zero : ∀ k, popF k 0 = 0
  | 0 => rfl
  | k + 1 => by unfold popF; simp [popF_zero k]
theorem popF_more : ∀ (k n : Nat), n < 2 ^ k → popF (k + 1) n = popF k n
  | 0, n, h => by
    have h0 : n = 0 := by simpa using h
    subst h0; rfl
  | k + 1, n, h => by
    show n % 2 + popF (k + 1) (n / 2) = n % 2 + popF k (n / 2)
    rw [popF_more k (n / 2) (by rw [Nat.pow_succ] at h; lia)]
theorem popF_ge : ∀ (j k n : Nat), n < 2 ^ k → popF (k + j) n = popF k n
  | 0, _, _, _ => rfl
  | j + 1, k, n, h => by
    rw [← Nat.add_assoc, popF_more (k + j) n (Nat.lt_of_lt_of_le h (Nat.pow_le_pow_right (by decide) (Nat.le_add_right _ _))), popF_ge j k n h]
noncomputable def popN (n : Nat) : Nat := popF n n
theorem popN_of {k n : Nat} (h : n < 2 ^ k) : popN n = popF k n := by
  unfold popN
  have h2 : n < 2 ^ n := Nat.lt_two_pow_self
  rcases Nat.le_total k n with hk | hk
  · obtain ⟨j, rfl⟩ := Nat.exists_eq_add_of_le hk
    rw [popF_ge j k _ h]
  · obtain ⟨j, rfl⟩ := Nat.exists_eq_add_of_le hk
    rw [popF_ge j n _ h2]
theorem popN_step (n : Nat) : popN n = n % 2 + popN (n / 2) := by
  have h1 : n < 2 ^ (n + 1) := Nat.lt_of_lt_of_le Nat.lt_two_pow_self (Nat.pow_le_pow_right (by decide) (Nat.le_succ _))
  have h2 : n / 2 < 2 ^ n := Nat.lt_of_le_of_lt (Nat.div_le_self _ _) Nat.lt_two_pow_self
  rw [popN_of h1, popN_of h2]; rfl
theorem land_even (a b : Nat) : (2 * a) &&& (2 * b + 1) = 2 * (a &&& b) := by
  apply Nat.eq_of_testBit_eq
  intro i
  cases i with
  | zero => simp [Nat.testBit_and, Nat.testBit_zero]
  | succ i =>
    rw [Nat.testBit_and, Nat.testBit_succ, Nat.testBit_succ, Nat.testBit_succ, show 2 * a / 2 = a by lia, show (2 * b + 1) / 2 = b by lia, show 2 * (a &&& b) / 2 = (a &&& b) by lia, Nat.testBit_and]
theorem land_odd (a b : Nat) : (2 * a + 1) &&& (2 * b) = 2 * (a &&& b) := by rw [Nat.and_comm, land_even, Nat.and_comm]
theorem kern : ∀ (n : Nat), 0 < n → popN (n &&& (n - 1)) + 1 = popN n ∧ n &&& (n - 1) < n := by
  intro n
  induction n using Nat.strongRecOn with
  | ind n ih =>
    intro hn
    refine ⟨?_, Nat.lt_of_le_of_lt Nat.and_le_right (by lia)⟩
    rcases Nat.mod_two_eq_zero_or_one n with h | h
    · obtain ⟨k, rfl⟩ : ∃ k, n = 2 * k := ⟨n / 2, by lia⟩
      have e : 2 * k - 1 = 2 * (k - 1) + 1 := by lia
      rw [e, land_even, popN_step (2 * k), popN_step (2 * (k &&& (k - 1)))]
      have := (ih k (by lia) (by lia)).1
      rw [show 2 * k / 2 = k by lia, show 2 * (k &&& (k - 1)) / 2 = (k &&& (k - 1)) by lia]
      lia
    · obtain ⟨k, rfl⟩ : ∃ k, n = 2 * k + 1 := ⟨n / 2, by lia⟩
      have e : 2 * k + 1 - 1 = 2 * k := by lia
      rw [e, land_odd, Nat.and_self, popN_step (2 * k), popN_step (2 * k + 1)]
      rw [show 2 * k / 2 = k by lia, show (2 * k + 1) / 2 = k by lia]
      lia
noncomputable def BC (c : Int) (m : Nat) (a b : Int) : Prop := 0 ≤ a ∧ m = a.toNat ∧ b + popN a.toNat = popN c.toNat
theorem BC.next {c : Int} {m : Nat} {a b : Int} (x : BC c m a b) (h : 0 < a) : ∃ n', n' < m ∧ BC c n' (Builtin.bitAnd a (a - 1)) (b + 1) := by
  obtain ⟨h0, hm, hb⟩ := x
  obtain ⟨k, rfl⟩ : ∃ k : Nat, a = (k : Int) := ⟨a.toNat, by lia⟩
  have hk : 0 < k := by lia
  have e1 : ((k : Int) - 1) = ((k - 1 : Nat) : Int) := by lia
  have e : Builtin.bitAnd (k : Int) ((k : Int) - 1) = ((k &&& (k - 1) : Nat) : Int) := by
    rw [e1, PyProof.Rows.bitAnd_pp (by lia) (by lia)]; simp
  obtain ⟨h1, h2⟩ := kern k hk
  refine ⟨k &&& (k - 1), by lia, ?_, ?_, ?_⟩
  · rw [e]; lia
  · rw [e]; simp
  · rw [e]
    simp only [Int.toNat_natCast] at hb ⊢
    lia
theorem BC.done {c : Int} {m : Nat} {a b : Int} {t : Tok} (x : BC c m a b) (h : ¬ 0 < a) : flv (.ret (.int b t)) = .int (popN c.toNat) t := by
  obtain ⟨h0, hm, hb⟩ := x
  have : a = 0 := by lia
  subst this
  have e : b = popN c.toNat := by simpa [popN, popF] using hb
  rw [e]; rfl
theorem BC.start {c : Int} (h : 0 ≤ c) : While2 x y (BC c) c 0 := ⟨c.toNat, h, rfl, by lia⟩
theorem bit_count_pos {w : World} {h : Heap} (S : Std w h) {l : Addr} {v : Value} {n : Int} (hl : h.IsList l [v].toArray) (V : WholeAt v n) (h0 : 0 ≤ n) : Calls w 380 (.ref 417) [.none, .ref l] h (fun v _ => ∃ t, v = .int (popN n.toNat) t) := by
 k_with "e_q" =>
  revert S hl V h0
  revert w h l v n
  refine no_implicit_lambda% (epsT5 (ne := ⟨(Mine.Internal.zw, cN, cN, cN, cN)⟩) ?_); generalize pj1 _ = w; generalize pj2 _ = h; generalize pj3 _ = l; generalize pj4 _ = v; generalize pl5 _ = n
  intro S hl V h0
  have zOn : ZOn := .mk
  k_with "m_next" => exact BC.next (by assumption) (by assumption)
  k_with "m_close" => exact ⟨_, BC.done (by assumption) (by assumption)⟩
  have hNm : Names2 (Str.ofString "number") (Str.ofString "found") := .mk
  have hW1 : While2 (Str.ofString "number") (Str.ofString "found") (BC n) n 0 := BC.start h0
  walk_at "m_enter"
  k_steps
  all_goals first | walk_at "m_wend" | (dsimp only; wrow_close)
 k_extra "e_Q"
theorem bit_count_neg {w : World} {h : Heap} (S : Std w h) {l : Addr} {v : Value} {n : Int} (hl : h.IsList l [v].toArray) (V : WholeAt v n) (h0 : ¬ 0 ≤ n) : Calls w 380 (.ref 417) [.none, .ref l] h (fun v _ => ∃ t, v = .int (popN (-1 - n).toNat) t) := by
 k_with "e_q" =>
  revert S hl V h0
  revert w h l v n
  refine no_implicit_lambda% (epsT5 (ne := ⟨(Mine.Internal.zw, cN, cN, cN, cN)⟩) ?_); generalize pj1 _ = w; generalize pj2 _ = h; generalize pj3 _ = l; generalize pj4 _ = v; generalize pl5 _ = n
  intro S hl V h0
  have zOn : ZOn := .mk
  k_with "m_next" => skip
  k_with "m_close" => skip
  k_with "m_next" => exact BC.next (by assumption) (by assumption)
  k_with "m_close" => exact ⟨_, BC.done (by assumption) (by assumption)⟩
  have hNm : Names2 (Str.ofString "number") (Str.ofString "found") := .mk
  have hW1 : While2 (Str.ofString "number") (Str.ofString "found") (BC (-1 - n)) (-1 - n) 0 := BC.start (by lia)
  walk_at "m_enter"
  k_steps
  all_goals first | walk_at "m_wend" | (dsimp only; wrow_close)
 k_extra "e_Q"
end Mine.Internal
namespace Mine.Internal
theorem sq_pow (b : Int) : ∀ k : Nat, (b * b) ^ k = b ^ (2 * k)
  | 0 => by simp
  | k + 1 => by
    rw [Int.pow_succ, sq_pow b k, show 2 * (k + 1) = 2 * k + 1 + 1 by lia, Int.pow_succ, Int.pow_succ, Int.mul_assoc]
theorem pow_small {b : Int} (hb : (if b < 0 then -b else b) < 2) : ∀ n : Nat, b ^ n = if n % 2 = 1 then b else if b ≠ 0 ∨ n = 0 then 1 else 0
  | 0 => by simp
  | n + 1 => by
    have h3 : b = -1 ∨ b = 0 ∨ b = 1 := by split at hb <;> lia
    rw [Int.pow_succ, pow_small hb n]
    rcases Nat.mod_two_eq_zero_or_one n with h | h
    · have h2 : (n + 1) % 2 = 1 := by lia
      rw [if_neg (by lia), if_pos h2]
      rcases h3 with rfl | rfl | rfl <;> simp
    · have h2 : ¬ (n + 1) % 2 = 1 := by lia
      rw [if_pos h, if_neg h2]
      rcases h3 with rfl | rfl | rfl <;> simp
theorem e_div {e : Int} : e.fdiv 2 = e / 2 := Int.fdiv_eq_ediv_of_nonneg _ (by decide)
theorem e_mod {e : Int} : e.fmod 2 = e % 2 := Int.fmod_eq_emod_of_nonneg _ (by decide)
theorem natAbs_pos_pow {b : Int} (hb : b ≠ 0) : ∀ n, 1 ≤ (b ^ n).natAbs
  | 0 => by simp
  | n + 1 => by
    rw [Int.pow_succ, Int.natAbs_mul]
    have := natAbs_pos_pow hb n
    have h2 : 1 ≤ b.natAbs := by lia
    exact Nat.le_trans (by lia) (Nat.mul_le_mul this h2)
noncomputable def PW (B : Int) (E : Nat) (m : Nat) (b e f : Int) : Prop := 0 ≤ e ∧ m = e.toNat ∧ f * b ^ e.toNat = B ^ E ∧ f ≠ 0 ∧ b ≠ 0 ∧ Builtin.Int.intBits b ≤ 65536 ∧ Builtin.Int.intBits f ≤ 65536
section
variable {B : Int} {E m : Nat} {b e f : Int}
theorem PW.ok1 (x : PW B E m b e f) : IntMulOk f b := mul_ok (by have := x.2.2.2.2.2; lia)
theorem PW.ok2 (x : PW B E m b e f) : IntMulOk b b := mul_ok (by have := x.2.2.2.2.2; lia)
theorem PW.mag {M : Nat} (x : PW B E m b e f) (hB : Builtin.Int.intBits (B ^ E) ≤ M) {k : Nat} (hk : k ≤ e.toNat) {y : Int} (hy : y.natAbs ≤ (f * b ^ k).natAbs) : Builtin.Int.intBits y ≤ M := by
  obtain ⟨h0, hm, he, hf, hb, _, _⟩ := x
  refine intBits_le_of_natAbs (Nat.le_trans hy ?_) hB
  rw [← he]
  obtain ⟨j, hj⟩ := Nat.exists_eq_add_of_le hk
  rw [hj, Int.pow_add, ← Int.mul_assoc, Int.natAbs_mul (f * b ^ k)]
  exact Nat.le_mul_of_pos_right _ (natAbs_pos_pow hb j)
theorem PW.fit1 (x : PW B E m b e f) (hB : Builtin.Int.intBits (B ^ E) ≤ 65536) (h : 0 < e) : (Builtin.Int.intBits (f * b) : Int) ≤ 65536 := by
  have := x.mag hB (k := 1) (y := f * b) (by lia) (by rw [Int.pow_succ, Int.pow_zero, Int.one_mul]; exact Nat.le_refl _)
  lia
theorem PW.fit2 (x : PW B E m b e f) (hB : Builtin.Int.intBits (B ^ E) ≤ 65536) (h : 0 < e.fdiv 2) : (Builtin.Int.intBits (b * b) : Int) ≤ 65536 := by
  rw [e_div] at h
  have hf : 1 ≤ f.natAbs := by have := x.2.2.2.1; lia
  have := x.mag hB (k := 2) (y := b * b) (by lia) (by
    rw [Int.pow_succ, Int.pow_succ, Int.pow_zero, Int.one_mul, Int.natAbs_mul f]
    exact Nat.le_mul_of_pos_left _ hf)
  lia
theorem PW.next1 (x : PW B E m b e f) (hB : Builtin.Int.intBits (B ^ E) ≤ 65536) (h1 : e.fmod 2 = 1) (h2 : 0 < e.fdiv 2) (h3 : 0 < e) : ∃ n', n' < m ∧ PW B E n' (b * b) (e.fdiv 2) (f * b) := by
  have f1 := x.fit1 hB h3
  have f2 := x.fit2 hB h2
  rw [e_div] at h2 ⊢
  rw [e_mod] at h1
  obtain ⟨h0, hm, he, hf, hb, _, _⟩ := x
  refine ⟨(e / 2).toNat, by lia, by lia, rfl, ?_, Int.mul_ne_zero hf hb, Int.mul_ne_zero hb hb, by lia, by lia⟩
  rw [← he, sq_pow, show e.toNat = 2 * (e / 2).toNat + 1 by lia, Int.pow_succ, Int.mul_assoc, Int.mul_comm b]
theorem PW.next2 (x : PW B E m b e f) (hB : Builtin.Int.intBits (B ^ E) ≤ 65536) (h2 : ¬ 0 < e.fdiv 2) (h3 : 0 < e) : ∃ n', n' < m ∧ PW B E n' b (e.fdiv 2) (f * b) := by
  have f1 := x.fit1 hB h3
  rw [e_div] at h2 ⊢
  obtain ⟨h0, hm, he, hf, hb, _, _⟩ := x
  have h1 : e = 1 := by lia
  subst h1
  refine ⟨0, by lia, by decide, rfl, ?_, Int.mul_ne_zero hf hb, hb, by lia, by lia⟩
  rw [← he]
  simp [Int.pow_succ]
theorem PW.next3 (x : PW B E m b e f) (hB : Builtin.Int.intBits (B ^ E) ≤ 65536) (h1 : e.fmod 2 ≠ 1) (h2 : 0 < e.fdiv 2) (h3 : 0 < e) : ∃ n', n' < m ∧ PW B E n' (b * b) (e.fdiv 2) f := by
  have f2 := x.fit2 hB h2
  rw [e_div] at h2 ⊢
  rw [e_mod] at h1
  obtain ⟨h0, hm, he, hf, hb, _, _⟩ := x
  refine ⟨(e / 2).toNat, by lia, by lia, rfl, ?_, hf, Int.mul_ne_zero hb hb, by lia, by lia⟩
  rw [← he, sq_pow, show e.toNat = 2 * (e / 2).toNat by lia]
theorem half_pos (h1 : e.fmod 2 ≠ 1) (h3 : 0 < e) : 0 < e.fdiv 2 := by
  rw [e_mod] at h1; rw [e_div]; lia
theorem PW.done {t : Tok} (x : PW B E m b e f) (h : ¬ 0 < e) : flv (.ret (.int f t)) = .int (B ^ E) t := by
  obtain ⟨h0, hm, he, hf, hb, _, _⟩ := x
  have : e = 0 := by lia
  subst this
  have : f = B ^ E := by simpa using he
  rw [this]; rfl
theorem PW.start (hb : ¬ (if b < 0 then -b else b) < 2) (he : 0 ≤ e) (hb2 : Builtin.Int.intBits b ≤ 65536) : While3 x y z (PW b e.toNat) b e 1 := by
  have hne : b ≠ 0 := fun q => by subst q; simp at hb
  refine ⟨e.toNat, he, rfl, by rw [Int.one_mul], by decide, hne, hb2, ?_⟩
  exact Nat.le_trans (show Builtin.Int.intBits 1 ≤ 1 by decide) (by decide)
theorem pw_a {t : Tok} {b e : Int} (hb : (if b < 0 then -b else b) < 2) (he : 0 ≤ e) (h : e.fmod 2 = 1) : flv (.ret (.int b t)) = .int (b ^ e.toNat) t := by
  rw [e_mod] at h
  rw [pow_small hb, if_pos (by lia)]; rfl
theorem pw_b {t : Tok} {b e : Int} (hb : (if b < 0 then -b else b) < 2) (he : 0 ≤ e) (h : e.fmod 2 ≠ 1) (h2 : b ≠ 0) : flv (.ret (.int 1 t)) = .int (b ^ e.toNat) t := by
  rw [e_mod] at h
  rw [pow_small hb, if_neg (by lia), if_pos (.inl h2)]; rfl
theorem pw_c {t : Tok} {b e : Int} (h2 : e = 0) : flv (.ret (.int 1 t)) = .int (b ^ e.toNat) t := by
  subst h2; simp [flv]
theorem pw_d {t : Tok} {b e : Int} (hb : (if b < 0 then -b else b) < 2) (he : 0 ≤ e) (h : e.fmod 2 ≠ 1) (h2 : b = 0) (h3 : e ≠ 0) : flv (.ret (.int 0 t)) = .int (b ^ e.toNat) t := by
  rw [e_mod] at h
  rw [pow_small hb, if_neg (by lia), if_neg (by lia)]; rfl
end
theorem power_small {w : World} {h : Heap} (S : Std w h) {l : Addr} {v v' : Value} {b e : Int} (hl : h.IsList l [v, v'].toArray) (V : WholeAt v b) (V' : WholeAt v' e) (hb : (if b < 0 then -b else b) < 2) (he : 0 ≤ e) : Calls w 380 (.ref 424) [.none, .ref l] h (fun v _ => ∃ t, v = .int (b ^ e.toNat) t) := by
 k_with "e_q" =>
  revert S hl V V' hb he
  revert w h l v v' b e
  refine no_implicit_lambda% (epsT7 (ne := ⟨(Mine.Internal.zw, cN, cN, cN, cN, cN, cN)⟩) ?_); generalize pj1 _ = w; generalize pj2 _ = h; generalize pj3 _ = l; generalize pj4 _ = v; generalize pj5 _ = v'; generalize pj6 _ = b; generalize pl7 _ = e
  intro S hl V V' hb he
  have zOn : ZOn := .mk
  k_with "m_close" => first | exact ⟨_, pw_a hb he (by assumption)⟩ | exact ⟨_, pw_b hb he (by assumption) (by assumption)⟩ | exact ⟨_, pw_c (by assumption)⟩ | exact ⟨_, pw_d hb he (by assumption) (by assumption) (by assumption)⟩
  walk_at "m_enter"
  k_steps
  all_goals (dsimp only; wrow_close)
 k_extra "e_Q"
theorem power_neg {w : World} {h : Heap} (S : Std w h) {l : Addr} {v v' : Value} {b e : Int} (hl : h.IsList l [v, v'].toArray) (V : WholeAt v b) (V' : WholeAt v' e) (he : e < 0) : Raises w 380 (.ref 424) [.none, .ref l] h (Str.ofString "args-out-of-range") := by
 k_with "e_q" =>
  revert S hl V V' he
  revert w h l v v' b e
  refine no_implicit_lambda% (epsT7 (ne := ⟨(Mine.Internal.zw, cN, cN, cN, cN, cN, cN)⟩) ?_); generalize pj1 _ = w; generalize pj2 _ = h; generalize pj3 _ = l; generalize pj4 _ = v; generalize pj5 _ = v'; generalize pj6 _ = b; generalize pl7 _ = e
  intro S hl V V' he
  have zOn : ZOn := .mk
  k_with "m_close" => skip
  walk_at "m_renter"
  k_steps
  all_goals walk_at "m_rup"
 k_extra "e_Q"
theorem power_big {w : World} {h : Heap} (S : Std w h) {l : Addr} {v v' : Value} {b e : Int} (hl : h.IsList l [v, v'].toArray) (V : WholeAt v b) (V' : WholeAt v' e) (hb : ¬ (if b < 0 then -b else b) < 2) (he : 0 ≤ e) (hbits : Builtin.Int.intBits (b ^ e.toNat) ≤ 65536) (hbits2 : Builtin.Int.intBits b ≤ 65536) : Calls w 380 (.ref 424) [.none, .ref l] h (fun v _ => ∃ t, v = .int (b ^ e.toNat) t) := by
 k_with "e_q" =>
  revert S hl V V' hb he hbits hbits2
  revert w h l v v' b e
  refine no_implicit_lambda% (epsT7 (ne := ⟨(Mine.Internal.zw, cN, cN, cN, cN, cN, cN)⟩) ?_); generalize pj1 _ = w; generalize pj2 _ = h; generalize pj3 _ = l; generalize pj4 _ = v; generalize pj5 _ = v'; generalize pj6 _ = b; generalize pl7 _ = e
  intro S hl V V' hb he hbits hbits2
  have zOn : ZOn := .mk
  k_with "m_turn" => (have zo1 := PW.ok1 zR; have zo2 := PW.ok2 zR)
  k_with "m_fit" => first | exact PW.fit1 (by assumption) hbits (by assumption) | exact PW.fit2 (by assumption) hbits (by assumption) | exact PW.fit2 (by assumption) hbits (half_pos (by assumption) (by assumption))
  k_with "m_next" => first | exact PW.next1 (by assumption) hbits (by assumption) (by assumption) (by assumption) | exact PW.next2 (by assumption) hbits (by assumption) (by assumption) | exact PW.next3 (by assumption) hbits (by assumption) (half_pos (by assumption) (by assumption)) (by assumption)
  k_with "m_close" => exact ⟨_, PW.done (by assumption) (by assumption)⟩
  have hNm : Names3 (Str.ofString "base") (Str.ofString "exponent") (Str.ofString "found") := .mk
  have hW1 : While3 (Str.ofString "base") (Str.ofString "exponent") (Str.ofString "found") (PW b e.toNat) b e 1 := PW.start hb he hbits2
  walk_at "m_enter"
  k_steps
  all_goals first | walk_at "m_wend" | ((try dsimp only); wrow_close)
 k_extra "e_Q"
end Mine.Internal
namespace Mine.Internal
theorem bits_two (M : Nat) : Builtin.Int.intBits ((2 : Int) ^ M) ≤ M + 1 ∧ M < Builtin.Int.intBits ((2 : Int) ^ M) := by
  have e : ((2 : Int) ^ M).natAbs = 2 ^ M := by rw [Int.natAbs_pow]; rfl
  constructor
  · rw [intBits_le_iff, e]; exact Nat.pow_lt_pow_right (by decide) (Nat.lt_succ_self _)
  · apply Nat.lt_of_not_le
    rw [intBits_le_iff, e]
    exact Nat.lt_irrefl _
noncomputable def PO (m : Nat) (b e f : Int) : Prop := ∃ k, k ≤ 15 ∧ m = 16 - k ∧ b = 2 ^ (2 ^ k) ∧ e = 2 ^ (16 - k) ∧ f = 1
theorem sq_two (k : Nat) : (2 : Int) ^ (2 ^ k) * 2 ^ (2 ^ k) = 2 ^ (2 ^ (k + 1)) := by
  rw [← Int.pow_add]; congr 1; rw [Nat.pow_succ]; lia
theorem PO.facts {m : Nat} {b e f : Int} (x : PO m b e f) : IntMulOk b b ∧ 0 < e ∧ e.fmod 2 = 0 ∧ (((Builtin.Int.intBits (b * b) : Int) ≤ 65536 ∧ ∃ n', n' < m ∧ PO n' (b * b) (e.fdiv 2) f) ∨ (65536 : Int) < Builtin.Int.intBits (b * b)) := by
  obtain ⟨k, hk, hm, rfl, rfl, rfl⟩ := x
  have hp : ∀ j : Nat, j ≤ 15 → 2 ^ j ≤ 32768 := fun j hj => Nat.pow_le_pow_right (n := 2) (by decide) hj
  obtain ⟨j, hj⟩ : ∃ j, 16 - k = j + 1 := ⟨15 - k, by lia⟩
  have he : (2 : Int) ^ (16 - k) = 2 * 2 ^ (15 - k) := by rw [hj, Int.pow_succ, Int.mul_comm, show 15 - k = j by lia]
  have hpos : (0 : Int) < 2 ^ (15 - k) := Int.pow_pos (by decide)
  have hb := (bits_two (2 ^ k)).1
  have hpk := hp k hk
  refine ⟨mul_ok (by lia), by lia, by rw [e_mod]; lia, ?_⟩
  rw [sq_two]
  rcases Nat.lt_or_ge k 15 with h | h
  · refine .inl ⟨?_, 15 - k, by lia, k + 1, by lia, by lia, rfl, ?_, rfl⟩
    · have := (bits_two (2 ^ (k + 1))).1
      have := hp (k + 1) (by lia)
      lia
    · rw [e_div, he, show 16 - (k + 1) = 15 - k by lia]; lia
  · have : k = 15 := by lia
    subst this
    have := (bits_two (2 ^ (15 + 1))).2
    have e2 : (2 : Nat) ^ (15 + 1) = 65536 := by decide
    rw [e2] at this
    rw [e2]
    exact .inr (by lia)
theorem power_over {w : World} {h : Heap} (S : Std w h) {l : Addr} {v v' : Value} (hl : h.IsList l [v, v'].toArray) (V : WholeAt v 2) (V' : WholeAt v' 65536) : Raises w 380 (.ref 424) [.none, .ref l] h (Str.ofString "overflow-error") := by
 k_with "e_q" =>
  revert S hl V V'
  revert w h l v v'
  refine no_implicit_lambda% (epsT5 (ne := ⟨(Mine.Internal.zw, cN, cN, cN, cN)⟩) ?_); generalize pj1 _ = w; generalize pj2 _ = h; generalize pj3 _ = l; generalize pj4 _ = v; generalize pl5 _ = v'
  intro S hl V V'
  have zOn : ZOn := .mk
  k_with "m_turn" => (obtain ⟨zo, z0, zmod, ⟨zfit, znx⟩ | zover⟩ := PO.facts zR)
  k_with "m_next" => assumption
  have hNm : Names3 (Str.ofString "base") (Str.ofString "exponent") (Str.ofString "found") := .mk
  have hW1 : While3 (Str.ofString "base") (Str.ofString "exponent") (Str.ofString "found") PO 2 65536 1 := ⟨16, 0, by decide, by decide, by decide, by decide, rfl⟩
  walk_at "m_renter"
  k_steps
  all_goals first | walk_at "m_wend" | trace_state
 k_extra "e_Q"
end Mine.Internal
namespace Mine.Internal
section
variable {prog : Program} {w : World} {A : Around} {E : Value → Shared → Prop} {s : Shared} {env : Env} {h₀ : Heap} {L : Addr} {m : Str → Option Value} {news : List (Addr × Obj)}
noncomputable def LcR (prog : Program) (w : World) (A : Around) (env : Env) (elt iter : Expr) (x : Str) (px : Pos) (scope : Scope) (cl : List (Str × Addr)) (pos : Pos) (y : Str) (py : Pos) (E : Value → Shared → Prop) (Q : Flow → Shared → Prop) (it : Value) (s₂ : Shared) : Prop :=
  wpAny (model prog w) A (newList []) (fun acc s₃ => wpAny (model prog w) A (newFunctionEnv scope env.globals cl [] env.qual none .none (some env)) (fun cenv s₄ =>
      codeAny (model prog w) A (.compStart (.ListComp elt [⟨.Name x px, iter, [], 0⟩] scope pos) 0 it acc { cenv with scope := relabel scope env }) (compPost (model prog w) A E (some (assign (.Name y py) env)) (fun _ s' => Q .next s') acc cenv.locals) s₄) E s₃) E s₂
inductive CompBad (x : Str) (k : Nat) : Prop
  | mk
theorem lcR_assign {elt iter : Expr} {x y : Str} {px py : Pos} {scope : Scope} {cl : List (Str × Addr)} {pos spos : Pos} {Q : Flow → Shared → Prop} {k : Nat} (_ : CompBad x k)
    (hsw : swapsWith (.ListComp elt [⟨.Name x px, iter, [], 0⟩] scope pos) (some (.Name y py)) spos.line env = pure true)
    (hclos : closureFor scope env = pure cl) (hkind : scope.kind = .function)
    (hnames : ∀ z ∈ scope.names, z.2 = .local → scope.names.lookup z.1 = some .local)
    (h : wpAny (model prog w) A (eval iter env) (fun xv s₁ => wpAny (model prog w) A (pyIter xv) (fun it s₂ => LcR prog w A env elt iter x px scope cl pos y py E Q it s₂) E s₁) E s)
    (hs : autoParam (∀ x, foldedSetIterable iter env x = pure x) auJ) :
    wpAny (model prog w) A (exec (.Assign [.Name y py] (.ListComp elt [⟨.Name x px, iter, [], 0⟩] scope pos) spos) env) Q E s := by
  rw [exec_Assign_Name_used _ _ _ _ hsw]
  refine wpAny_bind (wpAny_standAt (wpAny_bind ?_))
  show wpAny _ A (do let _ ← comprehension (.ListComp elt [⟨.Name x px, iter, [], 0⟩] scope pos) scope env _ (newList []) false (eval iter env) (some (assign (.Name y py) env))) _ _ s
  exact wpAny_bind (wpAny_mono (wpAny_comprehension_free (use := some (assign (.Name y py) env)) (Q := fun _ s' => Q .next s') rfl hs hclos hkind hnames
    (wpAny_mono h (fun xv s₁ h₁ => wpAny_mono h₁ (fun it s₂ h₂ => h₂) fun _ _ e => e) fun _ _ e => e)) (fun _ s' hq => wpAny_pure (wpAny_pure hq)) fun _ _ e => e)

end
namespace comp_raiseL_e
noncomputable def zzQ (prog : Program) (w : World) (A : Around) (E : Value → Shared → Prop) (s : Shared) (env : Env) (h₀ : Heap) (L : Addr) (m : Str → Option Value) (news : List (Addr × Obj)) (elt : Expr) (iter : Expr) (x : Str) (y : Str) (px : Pos) (py : Pos) (scope : Scope) (cl : List (Str × Addr)) (pos : Pos) (l : Addr) (vs : List Value) (k : Nat) (Q : Flow → Shared → Prop) : Prop := ∀ x_0 : CompBad x k, ∀ hh : A.handled = none, ∀ hl : s.heap.IsList l vs.toArray, ∀ hlen : vs.length < 1000, ∀ hk : k < vs.length, ∀ F : Fr h₀ L s.heap m, ∀ N : News h₀ L s.heap news, ∀ hcell : ∀ y ∈ scope.names, y.2 ≠ .cell, ∀ hkind : scope.kind = .function, ∀ hx : scope.names.lookup x = some .local, ∀ K : EltOk prog w A h₀ news env scope cl x elt (fun i v => i < k ∧ vs[i]? = some v) (fun _ _ => True) s, ∀ R : ∀ C v h tk m₃, vs[k]? = some v → Fr h₀ C h m₃ → News h₀ C h news → m₃ x = some v → (∀ b o, s.heap.get? b = some o → h.get? b = some o) → s.heap.get? C = none →
      wpAny (model prog w) A (eval elt (compEnvC scope cl C env)) (fun _ _ => False) (notedBy (model prog w) A (compEnvC scope cl C env) (CompErr (model prog w) A E C)) { s with heap := h, toks := tk }, wpAny (model prog w) A (pyIter (.ref l)) (fun it s₂ => LcR prog w A env elt iter x px scope cl pos y py E Q it s₂) E s
noncomputable abbrev zzT : Type := Program × World × Around × (Value → Shared → Prop) × Shared × Env × Heap × Addr × (Str → Option Value) × (List (Addr × Obj)) × Expr × Expr × Str × Str × Pos × Pos × Scope × (List (Str × Addr)) × Pos × Addr × (List Value) × Nat × (Flow → Shared → Prop)
noncomputable def zzS (z : zzT) : Prop := zzQ z.1 z.2.1 z.2.2.1 z.2.2.2.1 z.2.2.2.2.1 z.2.2.2.2.2.1 z.2.2.2.2.2.2.1 z.2.2.2.2.2.2.2.1 z.2.2.2.2.2.2.2.2.1 z.2.2.2.2.2.2.2.2.2.1 z.2.2.2.2.2.2.2.2.2.2.1 z.2.2.2.2.2.2.2.2.2.2.2.1 z.2.2.2.2.2.2.2.2.2.2.2.2.1 z.2.2.2.2.2.2.2.2.2.2.2.2.2.1 z.2.2.2.2.2.2.2.2.2.2.2.2.2.2.1 z.2.2.2.2.2.2.2.2.2.2.2.2.2.2.2.1 z.2.2.2.2.2.2.2.2.2.2.2.2.2.2.2.2.1 z.2.2.2.2.2.2.2.2.2.2.2.2.2.2.2.2.2.1 z.2.2.2.2.2.2.2.2.2.2.2.2.2.2.2.2.2.2.1 z.2.2.2.2.2.2.2.2.2.2.2.2.2.2.2.2.2.2.2.1 z.2.2.2.2.2.2.2.2.2.2.2.2.2.2.2.2.2.2.2.2.1 z.2.2.2.2.2.2.2.2.2.2.2.2.2.2.2.2.2.2.2.2.2.1 z.2.2.2.2.2.2.2.2.2.2.2.2.2.2.2.2.2.2.2.2.2.2
noncomputable def zzc : zzT := @Classical.epsilon zzT ⟨(cN, zw, zA, cN, zs, cN, cN, cN, cN, cN, cN, cN, cN, cN, cN, cN, cN, cN, cN, cN, cN, cN, cN)⟩ fun z => ¬ zzS z
theorem zzcore : zzS zzc := by
  show zzQ _ _ _ _ _ _ _ _ _ _ _ _ _ _ _ _ _ _ _ _ _ _ _
  generalize zzc.1 = prog; generalize zzc.2.1 = w; generalize zzc.2.2.1 = A; generalize zzc.2.2.2.1 = E; generalize zzc.2.2.2.2.1 = s; generalize zzc.2.2.2.2.2.1 = env; generalize zzc.2.2.2.2.2.2.1 = h₀; generalize zzc.2.2.2.2.2.2.2.1 = L; generalize zzc.2.2.2.2.2.2.2.2.1 = m; generalize zzc.2.2.2.2.2.2.2.2.2.1 = news; generalize zzc.2.2.2.2.2.2.2.2.2.2.1 = elt; generalize zzc.2.2.2.2.2.2.2.2.2.2.2.1 = iter; generalize zzc.2.2.2.2.2.2.2.2.2.2.2.2.1 = x; generalize zzc.2.2.2.2.2.2.2.2.2.2.2.2.2.1 = y; generalize zzc.2.2.2.2.2.2.2.2.2.2.2.2.2.2.1 = px; generalize zzc.2.2.2.2.2.2.2.2.2.2.2.2.2.2.2.1 = py; generalize zzc.2.2.2.2.2.2.2.2.2.2.2.2.2.2.2.2.1 = scope; generalize zzc.2.2.2.2.2.2.2.2.2.2.2.2.2.2.2.2.2.1 = cl; generalize zzc.2.2.2.2.2.2.2.2.2.2.2.2.2.2.2.2.2.2.1 = pos; generalize zzc.2.2.2.2.2.2.2.2.2.2.2.2.2.2.2.2.2.2.2.1 = l; generalize zzc.2.2.2.2.2.2.2.2.2.2.2.2.2.2.2.2.2.2.2.2.1 = vs; generalize zzc.2.2.2.2.2.2.2.2.2.2.2.2.2.2.2.2.2.2.2.2.2.1 = k; generalize zzc.2.2.2.2.2.2.2.2.2.2.2.2.2.2.2.2.2.2.2.2.2.2 = Q
  intro _ hh hl hlen hk F N hcell hkind hx K R
  obtain ⟨ol, hol, _⟩ := id hl
  have hlt : l < s.heap.objs.size := Heap.lt_size hol
  refine wpAny_pyIter_list hl ?_
  have up : ∀ b o, s.heap.get? b = some o → (s.heap.push { cls := .type "list_iterator", data := .fields #[.ref l, .int 0 0] }).get? b = some o := fun b o e => Heap.get?_push_of_some _ e
  have W := walks_list (prog := prog) (w := w) (A := A) hh hl
  have hI : s.heap.get? s.heap.objs.size = none := Heap.get?_none_of_le (Nat.le_refl _)
  have hst : (s.heap.push { cls := .type "list_iterator", data := .fields #[.ref l, .int 0 0] }).IsListIter s.heap.objs.size l 0 ∧ (s.heap.push { cls := .type "list_iterator", data := .fields #[.ref l, .int 0 0] }).IsList l vs.toArray := ⟨⟨_, Heap.get?_push_size _ rfl, rfl, rfl⟩, hl.at fun o e => Heap.get?_push_of_some _ e⟩
  generalize hs2 : s.heap.push { cls := .type "list_iterator", data := .fields #[.ref l, .int 0 0] } = g2 at up hst ⊢
  have hg2 : g2.objs.size = s.heap.objs.size + 1 := by rw [← hs2, Heap.size_push]
  generalize hIe : s.heap.objs.size = I at W hI hst hg2 hlt
  have hIn : @Eq Nat s.heap.objs.size I := hIe
  have hltn : @LT.lt Nat _ l I := hlt
  unfold LcR
  refine wpAny_newObj_type (wpAny_newFunctionEnv hcell (by intro y hy; simp at hy) (fun h₁ hns₁ hsb₁ => ?_) hkind)
  dsimp only at hns₁ hsb₁ ⊢
  generalize hH2 : g2.push { cls := .type "list", dict := none, data := .seq ([] : List Value).toArray } = H2 at hns₁ hsb₁ ⊢
  have hC : H2.objs.size = g2.objs.size + 1 := by rw [← hH2, Heap.size_push]
  have hDC : g2.objs.size ≠ H2.objs.size := by rw [hC]; exact Nat.ne_of_lt (Nat.lt_succ_self _)
  have old : ∀ b o, g2.get? b = some o → h₁.get? b = some o := fun b o e => hsb₁.extBut b o (by rw [hC]; exact Nat.ne_of_lt (Nat.lt_succ_of_lt (Heap.lt_size e))) (Heap.get?_push_of_some _ (hH2 ▸ Heap.get?_push_of_some _ e))
  have hacc : h₁.PlainList g2.objs.size #[] := ⟨_, hsb₁.extBut _ _ hDC (Heap.get?_push_of_some _ (hH2 ▸ Heap.get?_push_size _ rfl))⟩
  have fresh : ∀ a, s.heap.objs.size ≤ a → s.heap.get? a = none := fun a ha => Heap.get?_none_of_le ha
  have hIC : I ≠ H2.objs.size := by lia
  have hID : I ≠ g2.objs.size := by lia
  have hlC : l ≠ H2.objs.size := Nat.ne_of_lt (by lia)
  have hlD : l ≠ g2.objs.size := Nat.ne_of_lt (by lia)
  have old2 : ∀ b o, s.heap.get? b = some o → b ≠ I ∧ b ≠ H2.objs.size ∧ b ≠ g2.objs.size := fun b o e => by
    have hb : @LT.lt Nat _ b s.heap.objs.size := Heap.lt_size e
    exact ⟨Nat.ne_of_lt (by lia), Nat.ne_of_lt (by lia), Nat.ne_of_lt (by lia)⟩
  have loop : ∀ s₃ : Shared, (∃ tk, s₃ = { s with heap := h₁, toks := tk }) →
      codeAny (model prog w) A (.compLoop (.ListComp elt [⟨.Name x px, iter, [], 0⟩] scope pos) 0 (.ref I) (.ref g2.objs.size) (compEnvC scope cl H2.objs.size env))
        (compPost (model prog w) A E (some (assign (.Name y py) env)) (fun _ s' => Q .next s') (.ref g2.objs.size) H2.objs.size) s₃ := by
    rintro s₃ ⟨tk₀, rfl⟩
    refine codeAny_compLoop_list
      (fun n s' => ∃ h' tk i ys m', s' = { s with heap := h', toks := tk } ∧ i ≤ k ∧ n = k - i ∧ ys.size = i ∧ (h'.IsListIter I l i ∧ h'.IsList l vs.toArray) ∧ h'.Ns H2.objs.size m' ∧ h'.PlainList g2.objs.size ys ∧ (∀ b o, s.heap.get? b = some o → h'.get? b = some o)) ?_ k
      ⟨h₁, _, 0, #[], _, rfl, Nat.zero_le _, rfl, rfl, ⟨hst.1.at fun o e => old _ _ e, hst.2.at fun o e => old _ _ e⟩, hns₁, hacc, fun b o e => old b o (up b o e)⟩
    rintro n s' ⟨h', tk, i, ys, m', rfl, hi, rfl, hyl, hst', hn', hpl, hkp⟩
    refine W.item i _ _ _ (by lia) hst' fun v h₂ tk₂ hPv hst₂ hk₂ => ?_
    refine wpAny_assign_Name (wpAny_storeName_local (lookup_relabel_local hx) (hn'.at' fun o e => hk₂ _ o (by simpa using Ne.symm hIC) e) (fun h₃ hn₃ hs₃ => ?_) (by simp [compEnvC, relabel, hkind]))
    have k3 : ∀ b o, s.heap.get? b = some o → h₃.get? b = some o := fun b o e => hs₃.extBut b o (old2 b o e).2.1 (hk₂ b o (by simpa using (old2 b o e).1) (hkp b o e))
    have hL : @LT.lt Nat _ L s.heap.objs.size := F.ns.lt
    have F₃ : Fr h₀ H2.objs.size h₃ _ := ⟨hn₃, fun b o e => k3 b o (F.keep b o e), Nat.le_trans F.above (by show @LE.le Nat _ L H2.objs.size; lia)⟩
    have N₃ : News h₀ H2.objs.size h₃ news := fun p hp => ⟨k3 _ _ (N p hp).1, (old2 _ _ (N p hp).1).2.1, (N p hp).2.2⟩
    rcases Nat.lt_or_ge i k with hik | hik
    · refine wpAny_mono (K H2.objs.size i v h₃ s.gens s.drawn _ s.os _ ⟨hik, hPv⟩ F₃ N₃ (by simp) k3) (fun yv s₄ h₄ => ?_) fun _ _ f => f.elim
      obtain ⟨_, h₄, tk₄, rfl, hk₄⟩ := h₄
      obtain ⟨cap, hpl⟩ := hpl
      have zD : h₄.get? g2.objs.size = some (listOf ys cap) := hk₄ _ _ (hs₃.extBut _ _ hDC (hk₂ _ _ (by simpa using Ne.symm hID) hpl))
      refine append_at (hsz := by rw [PySem.sizeLine_eq]; lia) zD fun h₅ hs₅ hD₅ => ?_
      have k5 : ∀ b o, b ≠ g2.objs.size → h₃.get? b = some o → h₅.get? b = some o := fun b o hb e => hs₅.extBut b o hb (hk₄ b o e)
      refine ⟨k - (i + 1), by lia, h₅, tk₄, i + 1, ys.push yv, _, rfl, hik, rfl, by simp [hyl], ⟨?_, ?_⟩, hn₃.at' fun o e => k5 _ o (Ne.symm hDC) e, ⟨_, hD₅⟩, fun b o e => k5 b o (old2 b o e).2.2 (k3 b o e)⟩
      · exact hst₂.1.at fun o e => k5 _ o hID (hs₃.extBut _ o hIC e)
      · exact hst₂.2.at fun o e => k5 _ o hlD (hs₃.extBut _ o hlC e)
    · have : i = k := by lia
      subst this
      exact wpAny_mono (R H2.objs.size v h₃ _ _ hPv F₃ N₃ (by simp) k3 (fresh _ (by lia))) (fun _ _ f => f.elim) fun _ _ e => e
  exact codeAny_compStart_list (loop _ ⟨_, rfl⟩) (W.self 0 _ _ _ ⟨hst.1.at fun o e => old _ _ e, hst.2.at fun o e => old _ _ e⟩ (loop _ ⟨_, rfl⟩))
end comp_raiseL_e
theorem comp_raiseL {prog : Program} {w : World} {A : Around} {E : Value → Shared → Prop} {s : Shared} {env : Env} {h₀ : Heap} {L : Addr} {m : Str → Option Value} {news : List (Addr × Obj)} {elt iter : Expr} {x y : Str} {px py : Pos} {scope : Scope} {cl : List (Str × Addr)} {pos : Pos} {l : Addr} {vs : List Value} {k : Nat} {Q : Flow → Shared → Prop} (_ : CompBad x k)
    (hh : A.handled = none) (hl : s.heap.IsList l vs.toArray) (hlen : vs.length < 1000) (hk : k < vs.length) (F : Fr h₀ L s.heap m) (N : News h₀ L s.heap news)
    (hcell : ∀ y ∈ scope.names, y.2 ≠ .cell) (hkind : scope.kind = .function) (hx : scope.names.lookup x = some .local)
    (K : EltOk prog w A h₀ news env scope cl x elt (fun i v => i < k ∧ vs[i]? = some v) (fun _ _ => True) s)
    (R : ∀ C v h tk m₃, vs[k]? = some v → Fr h₀ C h m₃ → News h₀ C h news → m₃ x = some v → (∀ b o, s.heap.get? b = some o → h.get? b = some o) → s.heap.get? C = none →
      wpAny (model prog w) A (eval elt (compEnvC scope cl C env)) (fun _ _ => False) (notedBy (model prog w) A (compEnvC scope cl C env) (CompErr (model prog w) A E C)) { s with heap := h, toks := tk }) : wpAny (model prog w) A (pyIter (.ref l)) (fun it s₂ => LcR prog w A env elt iter x px scope cl pos y py E Q it s₂) E s := epsU (P := comp_raiseL_e.zzS) (by with_unfolding_all exact comp_raiseL_e.zzcore) (prog, w, A, E, s, env, h₀, L, m, news, elt, iter, x, y, px, py, scope, cl, pos, l, vs, k, Q) ‹_› hh hl hlen hk F N hcell hkind hx K R
section
variable {prog : Program} {w : World} {A : Around} {E : Value → Shared → Prop} {s : Shared} {env : Env} {h₀ : Heap} {L : Addr} {m : Str → Option Value} {news : List (Addr × Obj)}
end
section
variable {w : World} {h hb : Heap} {B0 : Heap} {l : List Env} {name : Str} {scope : Scope} {L a : Addr} {cd : Value} {cl : List (Str × Addr)} {sym : Str} {s : Shared} {m m₃ : Str → Option Value}
theorem Raises.passC {n : Nat} {f : Value} {args : List Value} {A : Around} {s₁ : Shared} {Q : Value → Shared → Prop} {C : Addr} {cenv : Env} (hR : Raises w n f args s₁.heap sym) (hCn : hb.get? C = none) (st : ∀ b o, hb.get? b = some o → s₁.heap.get? b = some o) (F : Fr h L hb m) (FC : Fr h C s₁.heap m₃) (hl : h.FunFrames B0 l)
    (hfr : A.frames = some (envX name scope L a cd cl :: l)) (hk : scope.kind ≠ .module) (hcf : cenv.frame = some L) (hs : autoParam (∃ tk, s₁ = { s with heap := s₁.heap, toks := tk }) auE)
    (hh : autoParam (A.handled = none) auR) (hd : autoParam (A.depth ≤ n) auL) (hu : autoParam (A.units ≤ 8 * n) auL) :
    wpAny (model Challenge.rw_np0089_01.row.prog w) A (call f args) Q (notedBy (model Challenge.rw_np0089_01.row.prog w) A cenv (CompErr (model Challenge.rw_np0089_01.row.prog w) A (Up h l (envX name scope L a cd cl) sym s) C)) s₁ := by
  have F1 : Fr h L s₁.heap m := F.keeps st
  have fb : hb.FunFrames (hideAll h (frs l)) (envX name scope L a cd cl :: l) := frames_cons hl F.keep F.above F.ns hk
  refine hR A s₁ _ _ Q _ hh hd hu hfr (frames_cons hl F1.keep F1.above F1.ns hk) rfl fun e h' tk' fl u => ?_
  obtain ⟨tk, hs⟩ := hs
  have := comp_pass (s := s) (tk := tk') (M := model Challenge.rw_np0089_01.row.prog w) (C := C) (cenv := cenv) F1 ⟨_, FC.ns⟩ (by
    cases q : h.get? C with
    | none => rfl
    | some o => rw [F.keep _ _ q] at hCn; cases hCn) (fun hm => by obtain ⟨_, o, ho, _⟩ := fb.mem hm; rw [hCn] at ho; cases ho) hfr hcf fl u
  rw [hs]; exact this
end
end Mine.Internal
namespace Mine.Internal
theorem chained_off {w : World} {h : Heap} (S : Std w h) {l t a d : Addr} {tk : Tok} {es : List DictEntry} {k : Nat} (hl : h.IsList l [Value.int 1 tk, .ref a].toArray) (h1 : h.get? a = some ⟨.ref 155, some d, .plain, #[]⟩) (h2 : h.get? d = some (dictOf es k))
   (h3 : getL (Str.ofString "buffer") es = some (some .none)) : Raises w 385 (.ref 316) [.ref l, .ref t] h (Str.ofString "error") := by
 k_with "e_q" =>
  k_with "m_size" => simp
  k_with "m_elt" => (obtain ⟨zi0, zhv⟩ := zP; have zi1 : zi = 0 := (by lia); subst zi1; cases zhv; have zV := NumAt.int (h := h) 1 tk)
  k_with "m_bad" => cases zhv
  k_with "m_eclose" => trivial
  have hG : CompBad (Str.ofString "value") 1 := .mk
  walk_at "m_renter"
  k_steps
 k_extra "e_Q"
theorem less_off {w : World} {h : Heap} (S : Std w h) {l a d : Addr} {tk : Tok} {es : List DictEntry} {k : Nat} (hl : h.IsList l [Value.int 1 tk, .ref a].toArray) (h1 : h.get? a = some ⟨.ref 155, some d, .plain, #[]⟩) (h2 : h.get? d = some (dictOf es k))
   (h3 : getL (Str.ofString "buffer") es = some (some .none)) : Raises w 380 (.ref 323) [.none, .ref l] h (Str.ofString "error") := by
 k_with "e_q" =>
  k_with "m_size" => skip
  k_with "m_elt" => skip
  k_with "m_bad" => skip
  k_with "m_eclose" => skip
  walk_at "m_renter"
  k_steps
 k_extra "e_Q"
end Mine.Internal
namespace Mine.Internal
theorem minus0_calls {w : World} {h : Heap} (S : Std w h) {l : Addr} (hl : h.IsList l ([] : List Value).toArray) : Calls w 380 (.ref 269) [.none, .ref l] h (fun v _ => ∃ t, v = .int 0 t) := by
 k_with "e_q" =>
  revert S hl
  revert w h l
  refine no_implicit_lambda% (epsT3 (ne := ⟨(Mine.Internal.zw, cN, cN)⟩) ?_); generalize pj1 _ = w; generalize pj2 _ = h; generalize pl3 _ = l
  intro S hl
  have zOn : ZOn := .mk
  walk_at "m_enter"
  k_steps
 k_extra "e_Q"
theorem minus1_calls {w : World} {h : Heap} (S : Std w h) {l : Addr} {v : Value} {n : Int} (hl : h.IsList l [v].toArray) (V : NumAt h v n) (hf : (Builtin.Int.intBits (0 - n) : Int) ≤ 65536) : Calls w 380 (.ref 269) [.none, .ref l] h (fun v _ => ∃ t, v = .int (0 - n) t) := by
 k_with "e_q" =>
  revert S hl V hf
  revert w h l v n
  refine no_implicit_lambda% (epsT5 (ne := ⟨(Mine.Internal.zw, cN, cN, cN, cN)⟩) ?_); generalize pj1 _ = w; generalize pj2 _ = h; generalize pj3 _ = l; generalize pj4 _ = v; generalize pl5 _ = n
  intro S hl V hf
  have zOn : ZOn := .mk
  walk_at "m_enter"
  k_steps
 k_extra "e_Q"
theorem minus2_calls {w : World} {h : Heap} (S : Std w h) {l : Addr} {v : Value} {n : Int} {vs : List Value} {ns : List Int} (hl : h.IsList l (v :: vs).toArray) (V : NumAt h v n) (VS : NumsAt h vs ns) (h0 : 0 < vs.length) (hlen : vs.length ≤ 10) (hf : Fits (fun a n => a - n) n ns) : Calls w 380 (.ref 269) [.none, .ref l] h (fun v _ => ∃ t, v = .int (ns.foldl (fun a n => a - n) n) t) := by
 k_with "e_q" =>
  revert S hl V VS h0 hlen hf
  revert w h l v n vs ns
  refine no_implicit_lambda% (epsT7 (ne := ⟨(Mine.Internal.zw, cN, cN, cN, cN, cN, cN)⟩) ?_); generalize pj1 _ = w; generalize pj2 _ = h; generalize pj3 _ = l; generalize pj4 _ = v; generalize pj5 _ = n; generalize pj6 _ = vs; generalize pl7 _ = ns
  intro S hl V VS h0 hlen hf
  have zOn : ZOn := .mk
  k_with "m_len" => exact NumsAt.len (by assumption)
  k_with "m_item" => (have zV := NumsAt.item (by assumption) zhv zhn; have zb := Fits.at (by assumption) zhn zha; (try dsimp only at zb))
  have hg : FoldWith (Str.ofString "found") (fun a n => a - n) := trivial
  walk_at "m_enter"
  k_steps
 k_extra "e_Q"
theorem quotient1_calls {w : World} {h : Heap} (S : Std w h) {l : Addr} {v : Value} {n : Int} (hl : h.IsList l [v].toArray) (V : NumAt h v n) (h0 : n ≠ 0) (hb : n.natAbs.log2 < 9000) : Calls w 380 (.ref 283) [.none, .ref l] h (fun v _ => ∃ t, v = .int (cutV 1 n) t) := by
 k_with "e_q" =>
  revert S hl V h0 hb
  revert w h l v n
  refine no_implicit_lambda% (epsT5 (ne := ⟨(Mine.Internal.zw, cN, cN, cN, cN)⟩) ?_); generalize pj1 _ = w; generalize pj2 _ = h; generalize pj3 _ = l; generalize pj4 _ = v; generalize pl5 _ = n
  intro S hl V h0 hb
  have zOn : ZOn := .mk
  k_with "m_len" => skip
  k_with "m_item" => skip
  walk_at "m_enter"
  k_steps
 k_extra "e_Q"
noncomputable def Divs (ns : List Int) : Prop := ∀ n ∈ ns, n ≠ 0 ∧ n.natAbs.log2 < 9000
theorem Divs.at {ns : List Int} {i : Nat} {n : Int} (h : Divs ns) (hn : ns[i]? = some n) : n ≠ 0 ∧ n.natAbs.log2 < 9000 := h n (List.mem_of_getElem? hn)
theorem quotient2_calls {w : World} {h : Heap} (S : Std w h) {l : Addr} {v : Value} {n : Int} {vs : List Value} {ns : List Int} (hl : h.IsList l (v :: vs).toArray) (V : NumAt h v n) (VS : NumsAt h vs ns) (h0 : 0 < vs.length) (hlen : vs.length ≤ 10) (hf : Divs ns) : Calls w 380 (.ref 283) [.none, .ref l] h (fun v _ => ∃ t, v = .int (ns.foldl (fun a n => cutV a n) n) t) := by
 k_with "e_q" =>
  revert S hl V VS h0 hlen hf
  revert w h l v n vs ns
  refine no_implicit_lambda% (epsT7 (ne := ⟨(Mine.Internal.zw, cN, cN, cN, cN, cN, cN)⟩) ?_); generalize pj1 _ = w; generalize pj2 _ = h; generalize pj3 _ = l; generalize pj4 _ = v; generalize pj5 _ = n; generalize pj6 _ = vs; generalize pl7 _ = ns
  intro S hl V VS h0 hlen hf
  have zOn : ZOn := .mk
  k_with "m_len" => exact NumsAt.len (by assumption)
  k_with "m_item" => (have zV := NumsAt.item (by assumption) zhv zhn; obtain ⟨zd, ze⟩ := Divs.at (by assumption) zhn)
  have hg : FoldWith (Str.ofString "found") (fun a n => cutV a n) := trivial
  walk_at "m_enter"
  k_steps
 k_extra "e_Q"

end Mine.Internal
namespace Mine.Internal
inductive OwnLoop : Prop
  | mk
inductive FoldI (y : Str) (g : Int → Int → Int) : Prop
  | mk
noncomputable def TPost (h₀ : Heap) (L : Addr) (news : List (Addr × Obj)) (x y : Str) (m₀ : Str → Option Value) (r : Int) (s : Shared) (Q : Flow → Shared → Prop) (f : Flow) (s' : Shared) : Prop :=
  (f = .next ∧ ∃ h' tk m t, s' = { s with heap := h', toks := tk } ∧ Fr h₀ L h' m ∧ News h₀ L h' news ∧ m y = some (.int r t) ∧ ∀ z, z ≠ x → z ≠ y → m z = m₀ z) ∨ ∃ v, f = .ret v ∧ Q (.ret v) s'
theorem TPost.intro {h₀ h' : Heap} {L : Addr} {news : List (Addr × Obj)} {x y : Str} {m m₀ : Str → Option Value} {tk : Nat} {s : Shared} {r : Int} {t : Tok} {Q : Flow → Shared → Prop} (F : Fr h₀ L h' m) (N : News h₀ L h' news) (h2 : m y = some (.int r t)) (h3 : ∀ z, z ≠ x → z ≠ y → m z = m₀ z) :
    TPost h₀ L news x y m₀ r s Q .next { s with heap := h', toks := tk } := .inl ⟨rfl, h', tk, m, t, rfl, F, N, h2, h3⟩
theorem TPost.ret {h₀ : Heap} {L : Addr} {news : List (Addr × Obj)} {x y : Str} {m₀ : Str → Option Value} {s s' : Shared} {r : Int} {v : Value} {Q : Flow → Shared → Prop} (h : Q (.ret v) s') : TPost h₀ L news x y m₀ r s Q (.ret v) s' := .inr ⟨v, rfl, h⟩
section
variable {prog : Program} {w : World} {A : Around} {E : Value → Shared → Prop} {s : Shared} {env : Env} {h₀ : Heap} {x : Str} {body : List Stmt} {Q : Flow → Shared → Prop}
theorem iter_accI {l : Addr} {vs : List Value} {ns : List Int} {m₀ : Str → Option Value} {news : List (Addr × Obj)} {y : Str} {a₀ : Int} {t₀ : Tok} {g : Int → Int → Int} (_ : FoldI y g)
    (hh : A.handled = none) (hl : s.heap.IsList l vs.toArray) (hL : l ≠ env.locals) (hlen : vs.length = ns.length) (F : Fr h₀ env.locals s.heap m₀) (N : News h₀ env.locals s.heap news) (hy : m₀ y = some (.int a₀ t₀)) (hyx : y ≠ x)
    (turn : ∀ i v n a ta h tk own, vs[i]? = some v → ns[i]? = some n → a = (ns.take i).foldl g a₀ → Fr h₀ env.locals h (fun z => if z = x then some v else if z = y then some (.int a ta) else m₀ z) → News h₀ env.locals h (own ++ news) →
      wpAny (model prog w) A (execs body env) (TPost h₀ env.locals (own ++ news) x y m₀ (g a n) { s with heap := h, toks := tk } Q) E { s with heap := h, toks := tk })
    (done : ∀ (u : Str → Option Value) t h tk, Fr h₀ env.locals h (fun z => if z = x then u z else if z = y then some (.int (ns.foldl g a₀) t) else m₀ z) → News h₀ env.locals h news → Q .next { s with heap := h, toks := tk }) :
    wpAny (model prog w) A (pyIter (.ref l)) (fun it s₂ => LoopAtV prog w A h₀ env x body Q E it s₂) E s :=
  iter_accV g hh hl hL hlen F N hy hyx (fun i v n a ta h tk own h1 h2 h3 F N => wpAny_mono (turn i v n a ta h tk own h1 h2 h3 F N) (fun f s' p => by
    rcases p with ⟨rfl, h', tk', m, t, rfl, F', N', e1, e2⟩ | ⟨v, rfl, q⟩
    · exact InvEnd.intro F' N' (fun _ q => q) ⟨⟨t, e1⟩, e2⟩
    · exact q) fun _ _ e => e) done
noncomputable def RPost (Q : Flow → Shared → Prop) (f : Flow) (s' : Shared) : Prop := ∃ v, f = .ret v ∧ Q (.ret v) s'
theorem RPost.intro {Q : Flow → Shared → Prop} {v : Value} {s' : Shared} (h : Q (.ret v) s') : RPost Q (.ret v) s' := ⟨v, rfl, h⟩
inductive FoldBadI (y : Str) (g : Int → Int → Int) (bad : Nat → Prop) (ns : List Int) : Prop
  | mk (i : Nat) (h : i < ns.length) (hb : bad i)
theorem iter_accRI {l : Addr} {vs : List Value} {ns : List Int} {m₀ : Str → Option Value} {news : List (Addr × Obj)} {y : Str} {a₀ : Int} {t₀ : Tok} {g : Int → Int → Int} {bad : Nat → Prop} (hbad : FoldBadI y g bad ns)
    (hh : A.handled = none) (hl : s.heap.IsList l vs.toArray) (hL : l ≠ env.locals) (hlen : vs.length = ns.length) (F : Fr h₀ env.locals s.heap m₀) (N : News h₀ env.locals s.heap news) (hy : m₀ y = some (.int a₀ t₀)) (hyx : y ≠ x)
    (turn : ∀ i v n a ta h tk own, ¬ bad i → vs[i]? = some v → ns[i]? = some n → a = (ns.take i).foldl g a₀ → Fr h₀ env.locals h (fun z => if z = x then some v else if z = y then some (.int a ta) else m₀ z) → News h₀ env.locals h (own ++ news) →
      wpAny (model prog w) A (execs body env) (TPost h₀ env.locals (own ++ news) x y m₀ (g a n) { s with heap := h, toks := tk } Q) E { s with heap := h, toks := tk })
    (turnB : ∀ i v n a ta h tk own, bad i → vs[i]? = some v → ns[i]? = some n → a = (ns.take i).foldl g a₀ → Fr h₀ env.locals h (fun z => if z = x then some v else if z = y then some (.int a ta) else m₀ z) → News h₀ env.locals h (own ++ news) →
      wpAny (model prog w) A (execs body env) (RPost Q) E { s with heap := h, toks := tk }) :
    wpAny (model prog w) A (pyIter (.ref l)) (fun it s₂ => LoopAtV prog w A h₀ env x body Q E it s₂) E s := by
  refine iter_vals (vs := vs) (fun i m => ((∃ t, m y = some (.int ((ns.take i).foldl g a₀) t)) ∧ ∀ z, z ≠ x → z ≠ y → m z = m₀ z) ∧ ∀ j, j < i → ¬ bad j) hh hl hL F N ⟨⟨⟨t₀, by simpa using hy⟩, fun _ _ _ => rfl⟩, fun _ q => absurd q (Nat.not_lt_zero _)⟩ ?_ ?_
  · rintro i v m₁ h tk own hv ⟨⟨⟨ta, ha⟩, hm⟩, hb⟩ F₁ N₁
    have hi : i < ns.length := by rw [← hlen]; exact (List.getElem?_eq_some_iff.mp hv).1
    have hn : ns[i]? = some ns[i] := by simp [hi]
    have e : (fun z => if z = x then some v else m₁ z) = fun z => if z = x then some v else if z = y then some (Value.int ((ns.take i).foldl g a₀) ta) else m₀ z := by
      funext z
      by_cases h1 : z = x
      · simp [h1]
      · simp only [if_neg h1]
        by_cases h2 : z = y
        · subst h2; simp [ha]
        · simp only [if_neg h2]; exact hm z h1 h2
    rw [e] at F₁
    have hs : (ns.take (i + 1)).foldl g a₀ = g ((ns.take i).foldl g a₀) ns[i] := by
      rw [List.take_add_one, List.foldl_append, hn]; rfl
    by_cases hbi : bad i
    · exact wpAny_mono (turnB i v ns[i] _ ta h tk own hbi hv hn rfl F₁ N₁) (fun f s' q => by obtain ⟨v, rfl, q⟩ := q; exact q) fun _ _ e => e
    · have hbs : ∀ j, j < i + 1 → ¬ bad j := fun j hj => by
        rcases Nat.lt_succ_iff_lt_or_eq.mp hj with h | h
        · exact hb j h
        · rw [h]; exact hbi
      refine wpAny_mono (turn i v ns[i] _ ta h tk own hbi hv hn rfl F₁ N₁) (fun f s' p => ?_) fun _ _ e => e
      rcases p with ⟨rfl, h', tk', m, t, rfl, F', N', e1, e2⟩ | ⟨v, rfl, q⟩
      · exact InvEnd.intro F' N' (fun _ q => q) ⟨⟨⟨t, by rw [hs]; exact e1⟩, e2⟩, hbs⟩
      · exact q
  · rintro m₁ h tk ⟨_, hb⟩ _ _
    obtain ⟨i, hi, hbi⟩ := hbad
    exact absurd hbi (hb i (by rw [hlen]; exact hi))
end
theorem ints_item {vs : List Value} {ns : List Int} (I : IntsAre vs ns) : ∀ {i : Nat} {v : Value} {n : Int}, vs[i]? = some v → ns[i]? = some n → ∃ t, v = .int n t := by
  induction I with
  | nil => intro i v n h; cases h
  | cons n t _ ih =>
    intro i v m h1 h2
    cases i with
    | zero => cases h1; cases h2; exact ⟨_, rfl⟩
    | succ i => exact ih (by simpa using h1) (by simpa using h2)
theorem ints_len {vs : List Value} {ns : List Int} (I : IntsAre vs ns) : vs.length = ns.length := by
  induction I with
  | nil => rfl
  | cons _ _ _ ih => simp [ih]
theorem occ_a : (Builtin.Str.occurrences (Str.ofString "*/") (Str.ofString "+") 0 (Str.ofString "*/").length 1).isEmpty = true := by decide +kernel
theorem occ_b : (Builtin.Str.occurrences (Str.ofString "*/") (Str.ofString "-") 0 (Str.ofString "*/").length 1).isEmpty = true := by decide +kernel
theorem occ_c : (Builtin.Str.occurrences (Str.ofString "*/") (Str.ofString "*") 0 (Str.ofString "*/").length 1).isEmpty = false := by decide +kernel
theorem occ_d : (Builtin.Str.occurrences (Str.ofString "*/") (Str.ofString "/") 0 (Str.ofString "*/").length 1).isEmpty = false := by decide +kernel
noncomputable def MOks (g : Int → Int → Int) (a₀ : Int) (ns : List Int) : Prop := ∀ (i : Nat) (n : Int), ns[i]? = some n → IntMulOk ((ns.take i).foldl g a₀) n
theorem MOks.at {g : Int → Int → Int} {a₀ : Int} {ns : List Int} {i : Nat} {n a : Int} (h : MOks g a₀ ns) (hn : ns[i]? = some n) (ha : a = (ns.take i).foldl g a₀) : IntMulOk a n := by
  subst ha; exact h i n hn
theorem ints_tail {v : Value} {vs : List Value} {n : Int} {ns : List Int} (I : IntsAre (v :: vs) (n :: ns)) : IntsAre vs ns := by cases I; assumption
theorem ints_head {v : Value} {vs : List Value} {n : Int} {ns : List Int} (I : IntsAre (v :: vs) (n :: ns)) : WholeAt v n := by cases I; exact ⟨_, rfl⟩
theorem in_strL {prog : Program} {w : World} {A : Around} {E : Value → Shared → Prop} {s : Shared} {x y : Str} {t u : Tok} {b : Bool} {Q : Value → Shared → Prop} (hb : (Builtin.Str.occurrences x y 0 x.length 1).isEmpty = b) (h : Q (.bool !b) s) : wpAny (model prog w) A (compareOp .In (.str y u) (.str x t)) Q E s := in_str (by rw [hb]; exact h)
end Mine.Internal
namespace Mine.Internal
theorem folded_plus0 {w : World} {h : Heap} (S : Std w h) {l : Addr} {tk : Tok} (hl : h.IsList l ([] : List Value).toArray) : Calls w 370 (.ref 737) [.str "+" tk, .ref l] h (fun v _ => ∃ t, v = .int 0 t) := by
 k_with "e_q" =>
  have hI : IntsAre [] [] := .nil
  walk_at "m_enter"
  k_steps
 k_extra "e_Q"
theorem folded_plus1 {w : World} {h : Heap} (S : Std w h) {l : Addr} {tk : Tok} {v : Value} {n : Int} (hl : h.IsList l [v].toArray) (I : IntsAre [v] [n]) (ho : MOks (fun a n => a + n) 0 [n]) : Calls w 370 (.ref 737) [.str "+" tk, .ref l] h (fun v _ => ∃ t, v = .int (([n] : List Int).foldl (fun a n => a + n) 0) t) := by
 k_with "e_q" =>
  have hO : OwnLoop := .mk
  k_with "m_len" => exact ints_len (by assumption)
  k_with "m_item" => (obtain ⟨zt, zv'⟩ := ints_item (by assumption) zhv zhn; subst zv'; have zm := MOks.at ho zhn zha)
  have hg : FoldI (Str.ofString "found") (fun a n => a + n) := .mk
  walk_at "m_enter"
  k_steps
  all_goals walk_at "m_tend"
 k_extra "e_Q"
theorem folded_plus2 {w : World} {h : Heap} (S : Std w h) {l : Addr} {tk : Tok} {v : Value} {n : Int} {vs : List Value} {ns : List Int} (hl : h.IsList l (v :: vs).toArray) (I : IntsAre (v :: vs) (n :: ns)) (h0 : 0 < vs.length) (hlen : vs.length ≤ 10) (ho : MOks (fun a n => a + n) n ns) : Calls w 370 (.ref 737) [.str "+" tk, .ref l] h (fun v _ => ∃ t, v = .int (ns.foldl (fun a n => a + n) n) t) := by
 k_with "e_q" =>
  k_with "m_len" => skip
  k_with "m_item" => skip
  have hO : OwnLoop := .mk
  have hT := ints_tail I
  obtain ⟨t0, hH⟩ := ints_head I
  subst hH
  k_with "m_len" => exact ints_len (by assumption)
  k_with "m_item" => (obtain ⟨zt, zv'⟩ := ints_item (by assumption) zhv zhn; subst zv'; have zm := MOks.at ho zhn zha)
  have hg : FoldI (Str.ofString "found") (fun a n => a + n) := .mk
  walk_at "m_enter"
  k_steps
  all_goals walk_at "m_tend"
 k_extra "e_Q"
theorem folded_minus0 {w : World} {h : Heap} (S : Std w h) {l : Addr} {tk : Tok} (hl : h.IsList l ([] : List Value).toArray) : Calls w 370 (.ref 737) [.str "-" tk, .ref l] h (fun v _ => ∃ t, v = .int 0 t) := by
 k_with "e_q" =>
  k_with "m_len" => skip
  k_with "m_item" => skip
  have hI : IntsAre [] [] := .nil
  walk_at "m_enter"
  k_steps
 k_extra "e_Q"
theorem folded_minus1 {w : World} {h : Heap} (S : Std w h) {l : Addr} {tk : Tok} {v : Value} {n : Int} (hl : h.IsList l [v].toArray) (I : IntsAre [v] [n]) (ho : MOks (fun a n => a - n) 0 [n]) : Calls w 370 (.ref 737) [.str "-" tk, .ref l] h (fun v _ => ∃ t, v = .int (([n] : List Int).foldl (fun a n => a - n) 0) t) := by
 k_with "e_q" =>
  have hO : OwnLoop := .mk
  k_with "m_len" => exact ints_len (by assumption)
  k_with "m_item" => (obtain ⟨zt, zv'⟩ := ints_item (by assumption) zhv zhn; subst zv'; have zm := MOks.at ho zhn zha)
  have hg : FoldI (Str.ofString "found") (fun a n => a - n) := .mk
  walk_at "m_enter"
  k_steps
  all_goals walk_at "m_tend"
 k_extra "e_Q"
theorem folded_minus2 {w : World} {h : Heap} (S : Std w h) {l : Addr} {tk : Tok} {v : Value} {n : Int} {vs : List Value} {ns : List Int} (hl : h.IsList l (v :: vs).toArray) (I : IntsAre (v :: vs) (n :: ns)) (h0 : 0 < vs.length) (hlen : vs.length ≤ 10) (ho : MOks (fun a n => a - n) n ns) : Calls w 370 (.ref 737) [.str "-" tk, .ref l] h (fun v _ => ∃ t, v = .int (ns.foldl (fun a n => a - n) n) t) := by
 k_with "e_q" =>
  k_with "m_len" => skip
  k_with "m_item" => skip
  have hO : OwnLoop := .mk
  have hT := ints_tail I
  obtain ⟨t0, hH⟩ := ints_head I
  subst hH
  k_with "m_len" => exact ints_len (by assumption)
  k_with "m_item" => (obtain ⟨zt, zv'⟩ := ints_item (by assumption) zhv zhn; subst zv'; have zm := MOks.at ho zhn zha)
  have hg : FoldI (Str.ofString "found") (fun a n => a - n) := .mk
  walk_at "m_enter"
  k_steps
  all_goals walk_at "m_tend"
 k_extra "e_Q"
theorem folded_times0 {w : World} {h : Heap} (S : Std w h) {l : Addr} {tk : Tok} (hl : h.IsList l ([] : List Value).toArray) : Calls w 370 (.ref 737) [.str "*" tk, .ref l] h (fun v _ => ∃ t, v = .int 1 t) := by
 k_with "e_q" =>
  k_with "m_len" => skip
  k_with "m_item" => skip
  have hI : IntsAre [] [] := .nil
  walk_at "m_enter"
  k_steps
 k_extra "e_Q"
theorem folded_times1 {w : World} {h : Heap} (S : Std w h) {l : Addr} {tk : Tok} {v : Value} {n : Int} (hl : h.IsList l [v].toArray) (I : IntsAre [v] [n]) (ho : MOks (fun a n => a * n) 1 [n]) : Calls w 370 (.ref 737) [.str "*" tk, .ref l] h (fun v _ => ∃ t, v = .int (([n] : List Int).foldl (fun a n => a * n) 1) t) := by
 k_with "e_q" =>
  have hO : OwnLoop := .mk
  k_with "m_len" => exact ints_len (by assumption)
  k_with "m_item" => (obtain ⟨zt, zv'⟩ := ints_item (by assumption) zhv zhn; subst zv'; have zm := MOks.at ho zhn zha)
  have hg : FoldI (Str.ofString "found") (fun a n => a * n) := .mk
  walk_at "m_enter"
  k_steps
  all_goals walk_at "m_tend"
 k_extra "e_Q"
theorem folded_times2 {w : World} {h : Heap} (S : Std w h) {l : Addr} {tk : Tok} {v : Value} {n : Int} {vs : List Value} {ns : List Int} (hl : h.IsList l (v :: vs).toArray) (I : IntsAre (v :: vs) (n :: ns)) (h0 : 0 < vs.length) (hlen : vs.length ≤ 10) (ho : MOks (fun a n => a * n) n ns) : Calls w 370 (.ref 737) [.str "*" tk, .ref l] h (fun v _ => ∃ t, v = .int (ns.foldl (fun a n => a * n) n) t) := by
 k_with "e_q" =>
  k_with "m_len" => skip
  k_with "m_item" => skip
  have hO : OwnLoop := .mk
  have hT := ints_tail I
  obtain ⟨t0, hH⟩ := ints_head I
  subst hH
  k_with "m_len" => exact ints_len (by assumption)
  k_with "m_item" => (obtain ⟨zt, zv'⟩ := ints_item (by assumption) zhv zhn; subst zv'; have zm := MOks.at ho zhn zha)
  have hg : FoldI (Str.ofString "found") (fun a n => a * n) := .mk
  walk_at "m_enter"
  k_steps
  all_goals walk_at "m_tend"
 k_extra "e_Q"
theorem folded_div1 {w : World} {h : Heap} (S : Std w h) {l : Addr} {tk : Tok} {v : Value} {n : Int} (hl : h.IsList l [v].toArray) (I : IntsAre [v] [n]) (ho : Divs [n]) : Calls w 370 (.ref 737) [.str "/" tk, .ref l] h (fun v _ => ∃ t, v = .int (([n] : List Int).foldl (fun a n => cutV a n) 1) t) := by
 k_with "e_q" =>
  k_with "m_len" => skip
  k_with "m_item" => skip
  have hO : OwnLoop := .mk
  k_with "m_len" => exact ints_len (by assumption)
  k_with "m_item" => (obtain ⟨zt, zv'⟩ := ints_item (by assumption) zhv zhn; subst zv'; obtain ⟨zd, ze⟩ := Divs.at ho zhn)
  have hg : FoldI (Str.ofString "found") (fun a n => cutV a n) := .mk
  walk_at "m_enter"
  k_steps
  all_goals walk_at "m_tend"
 k_extra "e_Q"
theorem folded_div2 {w : World} {h : Heap} (S : Std w h) {l : Addr} {tk : Tok} {v : Value} {n : Int} {vs : List Value} {ns : List Int} (hl : h.IsList l (v :: vs).toArray) (I : IntsAre (v :: vs) (n :: ns)) (h0 : 0 < vs.length) (hlen : vs.length ≤ 10) (ho : Divs ns) : Calls w 370 (.ref 737) [.str "/" tk, .ref l] h (fun v _ => ∃ t, v = .int (ns.foldl (fun a n => cutV a n) n) t) := by
 k_with "e_q" =>
  k_with "m_len" => skip
  k_with "m_item" => skip
  have hO : OwnLoop := .mk
  have hT := ints_tail I
  obtain ⟨t0, hH⟩ := ints_head I
  subst hH
  k_with "m_len" => exact ints_len (by assumption)
  k_with "m_item" => (obtain ⟨zt, zv'⟩ := ints_item (by assumption) zhv zhn; subst zv'; obtain ⟨zd, ze⟩ := Divs.at ho zhn)
  have hg : FoldI (Str.ofString "found") (fun a n => cutV a n) := .mk
  walk_at "m_enter"
  k_steps
  all_goals walk_at "m_tend"
 k_extra "e_Q"
theorem folded_div1z {w : World} {h : Heap} (S : Std w h) {l : Addr} {tk : Tok} {v : Value} (hl : h.IsList l [v].toArray) (I : IntsAre [v] [0]) : Calls w 370 (.ref 737) [.str "/" tk, .ref l] h (fun v _ => ∃ t, v = .str "arith-error" t) := by
 k_with "e_q" =>
  k_with "m_len" => skip
  k_with "m_item" => skip
  have hO : OwnLoop := .mk
  k_with "m_len" => exact ints_len (by assumption)
  k_with "m_item" => (exfalso; exact zbad (by have := (List.getElem?_eq_some_iff.mp zhn).1; simp only [List.length_cons, List.length_nil] at this; lia))
  k_with "m_bad" => (obtain ⟨zt, zv'⟩ := ints_item (by assumption) zhv zhn; subst zv'; subst zbad; cases zhn)
  have hg : FoldBadI (Str.ofString "found") (fun a n => cutV a n) (fun i => i = 0) [0] := ⟨0, by decide, rfl⟩
  walk_at "m_enter"
  k_steps
  all_goals walk_at "m_tend"
 k_extra "e_Q"
theorem folded_div2z {w : World} {h : Heap} (S : Std w h) {l : Addr} {tk : Tok} {v : Value} {n : Int} {vs : List Value} {ns : List Int} (hl : h.IsList l (v :: vs).toArray) (I : IntsAre (v :: vs) (n :: ns)) (h0 : 0 < vs.length) (hlen : vs.length ≤ 10)
    (hb : ∀ m ∈ ns, m.natAbs.log2 < 9000) (hz : 0 ∈ ns) : Calls w 370 (.ref 737) [.str "/" tk, .ref l] h (fun v _ => ∃ t, v = .str "arith-error" t) := by
 k_with "e_q" =>
  k_with "m_len" => skip
  k_with "m_item" => skip
  k_with "m_bad" => skip
  have hO : OwnLoop := .mk
  have hT := ints_tail I
  obtain ⟨t0, hH⟩ := ints_head I
  subst hH
  k_with "m_len" => exact ints_len (by assumption)
  k_with "m_item" => (obtain ⟨zt, zv'⟩ := ints_item (by assumption) zhv zhn; subst zv'; have zne : zn ≠ 0 := (fun q => zbad (q ▸ zhn)); have zlg := hb _ (List.mem_of_getElem? zhn))
  k_with "m_bad" => (obtain ⟨zt, zv'⟩ := ints_item (by assumption) zhv zhn; subst zv'; have zn0 : zn = 0 := Option.some.inj (Eq.trans (Eq.symm zhn) zbad); subst zn0)
  have hg : FoldBadI (Str.ofString "found") (fun a n => cutV a n) (fun i => ns[i]? = some 0) ns := by
    obtain ⟨i, hi⟩ := List.getElem?_of_mem hz
    exact ⟨i, (List.getElem?_eq_some_iff.mp hi).1, hi⟩
  walk_at "m_enter"
  k_steps
  all_goals walk_at "m_tend"
 k_extra "e_Q"
end Mine.Internal
namespace Mine.Internal
section
variable {w : World} {A : Around} {s : Shared} {E : Value → Shared → Prop} {Q : Value → Shared → Prop}
theorem enterC {f : Addr} {args : List Value} 
    {name qual : Str} {params : Arguments} {body : List Stmt} {scope : Scope} {dV kV doc pm cdv ct oc : Value} {an od : Option Addr} {osl : Array (Option Value)} {binds : List (Str × Value)}
    (S : Std w s.heap) (ho : (Mine.hd.heap_39 w.params).lookup f = some ⟨oc, od, .func (fnOf name qual params body scope dV kV doc pm an cdv ct), osl⟩)
    (hcd : codeIn (Mine.hd.heap_39 w.params) cdv qual = true) (hroom : A.depth < recursionLimit)
    (hbind : ∀ s, BindsTo s (fnOf name qual params body scope dV kV doc pm an cdv ct) ⟨args, []⟩ binds) (hkind : (binds.all fun y => scope.names.lookup y.1 == some .local || scope.names.lookup y.1 == some .cell) = true)
    (hnd : ((cellsFrom 0 scope.names []).map (·.1)).Nodup)
    (hb : ∀ (L' : Addr) (h₁ : Heap) (tk : Nat) (cells : List (Addr × Obj)), Fr s.heap L' h₁ (bindL (envOfC qual scope L' f cdv).kindOf binds fun _ => none) → News s.heap L' h₁ cells →
      CellsAre (bindC (envOfC qual scope L' f cdv).kindOf binds fun _ => none) (cellsFrom (L' + 1) scope.names []) cells →
      wpAny (model Challenge.rw_np0089_01.row.prog w) (A.deeper (envOfC qual scope L' f cdv)) (execs body (envOfC qual scope L' f cdv))
        (fun fl s' => Q (flv fl) s')
        (fun e s' => wpAny (model Challenge.rw_np0089_01.row.prog w) (A.deeper (envOfC qual scope L' f cdv)) (leaving (envOfC qual scope L' f cdv) e) (fun _ s'' => E e s'') (fun e' s'' => E e' s'') s') { s with heap := h₁, toks := tk })
    (hco : scope.isCoroutine = false) (hgen : scope.isGenerator = false) (hk : scope.kind = .function) : wpAny (model Challenge.rw_np0089_01.row.prog w) A (call (.ref f) args) Q E s := by
  obtain ⟨X, p, l, me, mg, mb, T⟩ := S
  refine wpAny_call ?_
  refine codeAny_call_function hroom (X _ _ ho) rfl hco hgen rfl (codeRec_of X hcd) (hbind s _ _ _ _ ?_)
  refine wpAny_newFunctionEnv_cells hk (kindsX hkind _) fun env' he s' x => ?_
  subst he
  refine ⟨(T.nolimit).keeps x.toInCall.keep, codeAny_func ?_⟩
  obtain ⟨h₁, tk, rfl, _⟩ := x.done
  have hk₁ := x.toInCall.keep
  obtain ⟨cells, NC, Y⟩ := Cl.news (h₀ := s.heap) (Nat.le_refl _) fun n c hm => ⟨x.cell n c (lookup_of_mem_nodup (cellsFrom_names scope.names 0 (s.heap.objs.size + 1) [] [] rfl ▸ hnd) hm), x.above n c hm⟩
  exact wpAny_mono (hb s.heap.objs.size h₁ tk cells ⟨x.toInCall.ns, hk₁, Nat.le_refl _⟩ NC Y) (fun fl s' r => r) fun _ _ x => x
end
theorem Calls.fnC {w : World} {n : Nat} {f : Addr} {args : List Value} {h : Heap} {P : Value → Heap → Prop}
    {name qual : Str} {params : Arguments} {body : List Stmt} {scope : Scope} {dV kV doc pm cdv ct oc : Value} {an od : Option Addr} {osl : Array (Option Value)} {binds : List (Str × Value)}
    (S : Std w h) (ho : (Mine.hd.heap_39 w.params).lookup f = some ⟨oc, od, .func (fnOf name qual params body scope dV kV doc pm an cdv ct), osl⟩)
    (hcd : codeIn (Mine.hd.heap_39 w.params) cdv qual = true) (hroom : n < recursionLimit)
    (hbind : ∀ s, BindsTo s (fnOf name qual params body scope dV kV doc pm an cdv ct) ⟨args, []⟩ binds) (hkind : (binds.all fun y => scope.names.lookup y.1 == some .local || scope.names.lookup y.1 == some .cell) = true)
    (hnd : ((cellsFrom 0 scope.names []).map (·.1)).Nodup)
    (hb : ∀ (L' : Addr) (h₁ : Heap) (s : Shared) (tk : Nat) (cells : List (Addr × Obj)), Fr h L' h₁ (bindL (envOfC qual scope L' f cdv).kindOf binds fun _ => none) → News h L' h₁ cells →
      CellsAre (bindC (envOfC qual scope L' f cdv).kindOf binds fun _ => none) (cellsFrom (L' + 1) scope.names []) cells →
      wpAny (model Challenge.rw_np0089_01.row.prog w) ((At n).deeper (envOfC qual scope L' f cdv)) (execs body (envOfC qual scope L' f cdv))
        (fun fl s' => Ret h P s (flv fl) s') (fun _ _ => False) { s with heap := h₁, toks := tk })
    (hco : scope.isCoroutine = false) (hgen : scope.isGenerator = false) (hk : scope.kind = .function) : Calls w n (.ref f) args h P := by
  intro A s Q E hh hd hu hs k
  subst hs
  refine lift hh hd hu (enterC S ho hcd hroom hbind hkind hnd (fun L' h₁ tk cells F N Y => ?_) hco hgen hk)
  refine wpAny_mono (hb L' h₁ s tk cells F N Y) (fun fl s' r => ?_) fun _ _ x => x.elim
  obtain ⟨h', tk', rfl, st, p⟩ := r
  exact k _ _ _ st p
section
variable {prog : Program} {w : World} {A : Around} {E : Value → Shared → Prop} {s : Shared} {env : Env} {h₀ : Heap} {L : Addr} {m : Str → Option Value} {news : List (Addr × Obj)}
theorem comp_gen2 {h₂ : Heap} {tk₂ : Nat} {scope : Scope} {cl : List (Str × Addr)} {x : Str} {elt : Expr} {I : Addr} {fp : List Addr} {n : Nat} {P : Nat → Value → Prop} {St : Nat → Heap → Prop} {G : Value → Value → Prop} {Q : Value → Shared → Prop}
    (W : Walks prog w A I fp [I] n P St) (hs : ∀ b o, s.heap.get? b = some o → h₂.get? b = some o) (hI : s.heap.get? I = none) (hn : n ≤ 1000) (hst : St 0 h₂) (hfp : ∀ b ∈ fp, b < h₂.objs.size) (F : Fr h₀ L s.heap m) (N : News h₀ L s.heap news)
    (K : EltOk prog w A h₀ news env scope cl x elt P G s)
    (k : ∀ D h' tk ys c (vs : List Value), Fr h₀ L h' m → News h₀ L h' ((D, listOf ys c) :: news) → s.heap.get? D = none → vs.length = n → (∀ j v, vs[j]? = some v → P j v) → Paired G vs ys.toList → (∀ b o, s.heap.get? b = some o → h'.get? b = some o) → Q (.ref D) { s with heap := h', toks := tk }) :
    ∃ I' fp wr n P St, (Value.ref I) = .ref I' ∧ Walks prog w A I' fp wr n P St ∧ n ≤ sizeLine ∧ St 0 h₂ ∧ (∀ b ∈ fp, b < h₂.objs.size) ∧
      QuietOnC prog w A env scope cl x [] elt wr P (fun _ => true) G { s with heap := h₂, toks := tk₂ } ∧
      (∀ D h' tk ys (vs : List Value), h₂.get? D = none → h'.IsList D ys → h'.PlainList D ys → vs.length = n → (∀ j v, vs[j]? = some v → P j v) → Paired G (vs.filter (fun _ => true)) ys.toList →
        (∀ b o, b ∉ wr → h₂.get? b = some o → h'.get? b = some o) → Q (.ref D) { s with heap := h', toks := tk }) := by
  refine ⟨I, fp, [I], n, P, St, rfl, W, by rw [PySem.sizeLine_eq]; lia, hst, hfp, quiet_of (L := L) (m := m) (news := news) (s := s) (F.keeps hs) (N.grown hs) (fresh_in F hI).2 (fun p hp q => by rw [← q, (N p hp).1] at hI; cases hI) hs hI K, ?_⟩
  intro D h' tk ys vs hD hl' hpl hlen' hP hF hk
  have hD0 := unfresh hs hD
  have hk' : ∀ b o, s.heap.get? b = some o → h'.get? b = some o := fun b o e => hk b o (fun q => by rw [List.mem_singleton.mp q, hI] at e; cases e) (hs b o e)
  obtain ⟨c, hpl⟩ := hpl
  obtain ⟨hDL, hDh⟩ := fresh_in F hD0
  rw [List.filter_eq_self.mpr (fun _ _ => rfl)] at hF
  refine k D h' tk ys c vs (F.keeps hk') (fun p hp => ?_) hD0 hlen' hP hF hk'
  · rcases List.mem_cons.mp hp with rfl | hp
    · exact ⟨hpl, hDL, hDh⟩
    · exact ⟨hk' _ _ (N p hp).1, (N p hp).2⟩

theorem comp_range {scope : Scope} {cl : List (Str × Addr)} {x : Str} {elt : Expr} {r : Addr} {a b : Int} {t u v : Tok} {n : Nat} {G : Value → Value → Prop} {Q : Value → Shared → Prop}
    (hh : A.handled = none) (hr : IsRange s.heap r a b 1 t u v) (hsm : Builtin.Range.small a b 1 = true) (hn : Builtin.Range.rangeSize a b 1 = ((n : Nat) : Int)) (hlen : n ≤ 1000) (F : Fr h₀ L s.heap m) (N : News h₀ L s.heap news)
    (K : EltOk prog w A h₀ news env scope cl x elt (fun i v => i < n ∧ ∃ t, v = .int (a + (i : Int)) t) G s)
    (k : ∀ D h' tk (ys : List Value) c (vs : List Value), Fr h₀ L h' m → News h₀ L h' ((D, listOf ys.toArray c) :: news) → s.heap.get? D = none → vs.length = n → (∀ j v, vs[j]? = some v → j < n ∧ ∃ t, v = .int (a + (j : Int)) t) → Paired G vs ys → (∀ b o, s.heap.get? b = some o → h'.get? b = some o) → Q (.ref D) { s with heap := h', toks := tk }) :
    wpAny (model prog w) A (pyIter (.ref r)) (fun it s₂ => LcAt prog w A env scope cl x elt G Q it s₂) E s := by
  refine wpAny_pyIter_range hr hsm ?_
  have W := PyProof.Rows.LCg.range_walks (prog := prog) (w := w) (A := A) (I := s.heap.objs.size) hh a n
  have W' : Walks prog w A s.heap.objs.size [s.heap.objs.size] [s.heap.objs.size] n (fun i v => i < n ∧ ∃ t, v = .int (a + (i : Int)) t) (fun i h => IsRangeIter h s.heap.objs.size (a + (i : Nat) * 1) ((n : Int) - (i : Nat)) 1) :=
    { W with item := fun i s Q E hi st hQ => W.item i s Q E hi st fun v h' tk hP => hQ v h' tk ⟨hi, hP⟩ }
  refine comp_gen2 (s := s) (tk₂ := s.toks) W' (fun b o e => Heap.get?_push_of_some _ e) (Heap.get?_none_of_le (Nat.le_refl _)) hlen (by show IsRangeIter _ _ _ _ _; rw [hn]; simpa using Heap.get?_push_size _ rfl) (fun b hb => ?_) F N K ?_
  · rw [List.mem_singleton.mp hb]
    show s.heap.objs.size < (s.heap.push _).objs.size
    rw [Heap.size_push]; exact Nat.lt_succ_self _
  · intro D h' tk ys c vs' F' N' hne hlen' hP hF hk
    obtain ⟨yl⟩ := ys
    exact k D h' tk yl c vs' F' N' hne hlen' hP hF hk
end
theorem ints_mk : ∀ (vs : List Value) (ns : List Int), vs.length = ns.length → (∀ (j : Nat) (v : Value) (n : Int), vs[j]? = some v → ns[j]? = some n → ∃ t, v = .int n t) → IntsAre vs ns
  | [], [], _, _ => .nil
  | v :: vs, n :: ns, hl, h => by
    obtain ⟨t, rfl⟩ := h 0 v n rfl rfl
    exact .cons n t (ints_mk vs ns (by simpa using hl) fun j v m a b => h (j + 1) v m (by simpa using a) (by simpa using b))
theorem range_made {vs ys : List Value} {n : Nat} {G : Value → Value → Prop} (f : Int → Int) (hlen : vs.length = n) (hP : ∀ (j : Nat) (v : Value), vs[j]? = some v → j < n ∧ ∃ t, v = .int (0 + (j : Int)) t) (hp : Paired G vs ys)
    (hG : ∀ i t y, G (.int i t) y → ∃ t', y = .int (f i) t') : IntsAre ys ((List.range n).map fun (i : Nat) => f (i : Int)) := by
  have h1 : vs.length = ((List.range n).map fun (i : Nat) => (i : Int)).length := by simp [hlen]
  have := paired_ints (ns := (List.range n).map fun (i : Nat) => (i : Int)) h1 f hp fun i v m y a b g => by
    obtain ⟨hj, t, rfl⟩ := hP i v a
    have hm : m = (i : Int) := by
      rw [List.getElem?_map, List.getElem?_range hj] at b
      exact (Option.some.inj b).symm
    subst hm
    rw [Int.zero_add] at g
    exact hG _ _ _ g
  rw [List.map_map] at this; exact this
noncomputable def MadeInts (h : Heap) (ns : List Int) (v : Value) (h' : Heap) : Prop := ∃ a ys c, v = .ref a ∧ h'.get? a = some (listOf ys c) ∧ h.get? a = none ∧ ∃ l, ys = l.toArray ∧ IntsAre l ns
theorem MadeInts.intro {h h' : Heap} {L a : Addr} {ys : List Value} {c : Nat} {ns : List Int} {news : List (Addr × Obj)} (N : News h L h' news) (hm : (a, listOf ys.toArray c) ∈ news) (I : IntsAre ys ns) : MadeInts h ns (.ref a) h' :=
  ⟨a, _, c, rfl, (N _ hm).1, (N _ hm).2.2, ys, rfl, I⟩
section
variable {M : Model} {A : Around} {E : Value → Shared → Prop} {s : Shared} {h₀ : Heap} {env : Env} {L : Addr} {news : List (Addr × Obj)}
theorem ldFree {x : Str} {pos : Pos} {v : Value} {c : Addr} {o : Obj} {Q : Value → Shared → Prop} (hl : env.kindOf x = some .free) (hk : env.scope.kind = .function) (N : News h₀ L s.heap news) (hc : env.cells.lookup x = some c) (hm : (c, o) ∈ news) (hd : o.data = .cell (some v)) (h : Q v s)
    (hb : (x == ("__debug__" : Str)) = false) (hn : (x == ("__classdict__" : Str)) = false) : wpAny M A (eval (.Name x pos) env) Q E s :=
  wpAny_Name (wpAny_loadName_free hk hl hc ⟨o, N.get hm, hd⟩ h hn) hb
end
end Mine.Internal
namespace Mine.Internal
noncomputable def GBits (n : Int) (v y : Value) : Prop := ∀ i t, v = .int i t → ∃ t', y = .int (Int.fmod (Int.fdiv n (2 ^ i.toNat)) 2) t'
theorem GBits.of {n i : Int} {t t' : Tok} : GBits n (.int i t) (.int (Int.fmod (Int.fdiv n (2 ^ i.toNat)) 2) t') := fun _ _ e => by cases e; exact ⟨_, rfl⟩
theorem bits_calls {w : World} {h : Heap} (S : Std w h) {n : Int} {t : Tok} : Calls w 370 (.ref 742) [.int n t] h (MadeInts h ((List.range 90).map fun (i : Nat) => Int.fmod (Int.fdiv n (2 ^ (i : Int).toNat)) 2)) := by
 k_with "e_q" =>
  k_with "m_elt" => (obtain ⟨zi9, zt, zv'⟩ := zP; subst zv')
  k_with "m_eclose" => exact GBits.of
  k_with "m_made" => (have zI := range_made (fun i => Int.fmod (Int.fdiv n (2 ^ i.toNat)) 2) zln zvp zpr (fun i t y g => g i t rfl))
  k_with "m_close" => exact MadeInts.intro (by assumption) (by k_mem) (by assumption)
  have hG : CompWith (Str.ofString "at") (GBits n) := trivial
  walk_at "m_centerC"
  k_steps
 k_extra "e_Q"
end Mine.Internal
namespace Mine.Internal
section
variable {prog : Program} {w : World} {A : Around} {E : Value → Shared → Prop} {s : Shared} {env : Env} {h₀ : Heap} {L : Addr} {m : Str → Option Value} {news : List (Addr × Obj)}
noncomputable def LcP (prog : Program) (w : World) (A : Around) (env : Env) (elt iter : Expr) (x x₂ : Str) (px px₂ tp : Pos) (tk : Nat) (scope : Scope) (cl : List (Str × Addr)) (pos : Pos) (E : Value → Shared → Prop) (Q : Value → Shared → Prop) (it : Value) (s₂ : Shared) : Prop :=
  wpAny (model prog w) A (newList []) (fun acc s₃ => wpAny (model prog w) A (newFunctionEnv scope env.globals cl [] env.qual none .none (some env)) (fun cenv s₄ =>
      codeAny (model prog w) A (.compStart (.ListComp elt [⟨.Tuple [.Name x px, .Name x₂ px₂] tk tp, iter, [], 0⟩] scope pos) 0 it acc { cenv with scope := relabel scope env }) (compPost (model prog w) A E none Q acc cenv.locals) s₄) E s₃) E s₂
inductive CompPair (x x₂ : Str) (G : Value → Value → Value → Prop) : Prop
  | mk
theorem lcP_eval {elt iter : Expr} {x x₂ : Str} {px px₂ tp : Pos} {tk : Nat} {scope : Scope} {cl : List (Str × Addr)} {pos : Pos} {Q : Value → Shared → Prop} {G : Value → Value → Value → Prop} (_ : CompPair x x₂ G)
    (hclos : closureFor scope env = pure cl) (hkind : scope.kind = .function)
    (hnames : ∀ z ∈ scope.names, z.2 = .local → scope.names.lookup z.1 = some .local)
    (h : wpAny (model prog w) A (eval iter env) (fun xv s₁ => wpAny (model prog w) A (pyIter xv) (fun it s₂ => LcP prog w A env elt iter x x₂ px px₂ tp tk scope cl pos E Q it s₂) E s₁) E s)
    (hs : autoParam (∀ x, foldedSetIterable iter env x = pure x) auJ) :
    wpAny (model prog w) A (eval (.ListComp elt [⟨.Tuple [.Name x px, .Name x₂ px₂] tk tp, iter, [], 0⟩] scope pos) env) Q E s := by
  rw [eval_ListComp]
  exact wpAny_comprehension_free (use := none) rfl hs hclos hkind hnames (wpAny_mono h (fun xv s₁ h₁ => wpAny_mono h₁ (fun it s₂ h₂ => h₂) fun _ _ e => e) fun _ _ e => e)
noncomputable def EltOk2 (prog : Program) (w : World) (A : Around) (h₀ : Heap) (news : List (Addr × Obj)) (env : Env) (scope : Scope) (cl : List (Str × Addr)) (x x₂ : Str) (elt : Expr) (P : Nat → Value → Value → Prop) (G : Value → Value → Value → Prop) (s : Shared) : Prop :=
  ∀ (C : Addr) (i : Nat) (v v₂ : Value) (h : Heap) (g : Array GenState) (d : Drawn) (tk : Nat) (os : OsState) (m₃ : Str → Option Value), P i v v₂ → Fr h₀ C h m₃ → News h₀ C h news → m₃ x = some v → m₃ x₂ = some v₂ → (∀ b o, s.heap.get? b = some o → h.get? b = some o) →
    wpAny (model prog w) A (eval elt (compEnvC scope cl C env)) (EltPost (G v) v₂ ⟨h, g, d, tk, os⟩) (fun _ _ => False) ⟨h, g, d, tk, os⟩
noncomputable def Made2 (n : Nat) (P : Nat → Value → Value → Prop) (G : Value → Value → Value → Prop) (ys : Array Value) : Prop := ys.size = n ∧ ∀ (j : Nat) (y : Value), ys[j]? = some y → ∃ v v₂, P j v v₂ ∧ G v v₂ y
end
namespace comp_pairs_e
noncomputable def zzQ (prog : Program) (w : World) (A : Around) (E : Value → Shared → Prop) (s : Shared) (env : Env) (h₀ : Heap) (L : Addr) (m : Str → Option Value) (news : List (Addr × Obj)) (h₂ : Heap) (tk₂ : Nat) (elt : Expr) (iter : Expr) (x : Str) (x₂ : Str) (px : Pos) (px₂ : Pos) (tp : Pos) (tkk : Nat) (scope : Scope) (cl : List (Str × Addr)) (pos : Pos) (I : Addr) (fp : List Addr) (wr : List Addr) (n : Nat) (P : Nat → Value → Value → Prop) (St : Nat → Heap → Prop) (Mid : Nat → Addr → Heap → Prop) (G : Value → Value → Value → Prop) (Q : Value → Shared → Prop) : Prop := ∀ W : WalksT prog w A I fp wr n (fun i vals => ∃ v v₂, vals = #[v, v₂] ∧ P i v v₂) St Mid, ∀ hh : A.handled = none, ∀ hs : ∀ b o, s.heap.get? b = some o → h₂.get? b = some o, ∀ hwr : ∀ b ∈ wr, s.heap.get? b = none, ∀ hs1 : @LE.le Nat _ s.heap.objs.size h₂.objs.size, ∀ hn : n ≤ 1000, ∀ hst : St 0 h₂, ∀ hfp : ∀ b ∈ fp, b < h₂.objs.size, ∀ F : Fr h₀ L s.heap m, ∀ N : News h₀ L s.heap news, ∀ hcell : ∀ y ∈ scope.names, y.2 ≠ .cell, ∀ hkind : scope.kind = .function, ∀ hx : scope.names.lookup x = some .local, ∀ hx₂ : scope.names.lookup x₂ = some .local, ∀ hxx : x ≠ x₂, ∀ K : EltOk2 prog w A h₀ news env scope cl x x₂ elt (fun i v v₂ => i < n ∧ P i v v₂) G s, ∀ k : ∀ D h' tk (ys : Array Value) c, Fr h₀ L h' m → News h₀ L h' ((D, listOf ys c) :: news) → s.heap.get? D = none → Made2 n P G ys → (∀ b o, s.heap.get? b = some o → h'.get? b = some o) → Q (.ref D) { s with heap := h', toks := tk }, LcP prog w A env elt iter x x₂ px px₂ tp tkk scope cl pos E Q (.ref I) { s with heap := h₂, toks := tk₂ }
noncomputable abbrev zzT : Type := Program × World × Around × (Value → Shared → Prop) × Shared × Env × Heap × Addr × (Str → Option Value) × (List (Addr × Obj)) × Heap × Nat × Expr × Expr × Str × Str × Pos × Pos × Pos × Nat × Scope × (List (Str × Addr)) × Pos × Addr × (List Addr) × (List Addr) × Nat × (Nat → Value → Value → Prop) × (Nat → Heap → Prop) × (Nat → Addr → Heap → Prop) × (Value → Value → Value → Prop) × (Value → Shared → Prop)
noncomputable def zzS (z : zzT) : Prop := zzQ z.1 z.2.1 z.2.2.1 z.2.2.2.1 z.2.2.2.2.1 z.2.2.2.2.2.1 z.2.2.2.2.2.2.1 z.2.2.2.2.2.2.2.1 z.2.2.2.2.2.2.2.2.1 z.2.2.2.2.2.2.2.2.2.1 z.2.2.2.2.2.2.2.2.2.2.1 z.2.2.2.2.2.2.2.2.2.2.2.1 z.2.2.2.2.2.2.2.2.2.2.2.2.1 z.2.2.2.2.2.2.2.2.2.2.2.2.2.1 z.2.2.2.2.2.2.2.2.2.2.2.2.2.2.1 z.2.2.2.2.2.2.2.2.2.2.2.2.2.2.2.1 z.2.2.2.2.2.2.2.2.2.2.2.2.2.2.2.2.1 z.2.2.2.2.2.2.2.2.2.2.2.2.2.2.2.2.2.1 z.2.2.2.2.2.2.2.2.2.2.2.2.2.2.2.2.2.2.1 z.2.2.2.2.2.2.2.2.2.2.2.2.2.2.2.2.2.2.2.1 z.2.2.2.2.2.2.2.2.2.2.2.2.2.2.2.2.2.2.2.2.1 z.2.2.2.2.2.2.2.2.2.2.2.2.2.2.2.2.2.2.2.2.2.1 z.2.2.2.2.2.2.2.2.2.2.2.2.2.2.2.2.2.2.2.2.2.2.1 z.2.2.2.2.2.2.2.2.2.2.2.2.2.2.2.2.2.2.2.2.2.2.2.1 z.2.2.2.2.2.2.2.2.2.2.2.2.2.2.2.2.2.2.2.2.2.2.2.2.1 z.2.2.2.2.2.2.2.2.2.2.2.2.2.2.2.2.2.2.2.2.2.2.2.2.2.1 z.2.2.2.2.2.2.2.2.2.2.2.2.2.2.2.2.2.2.2.2.2.2.2.2.2.2.1 z.2.2.2.2.2.2.2.2.2.2.2.2.2.2.2.2.2.2.2.2.2.2.2.2.2.2.2.1 z.2.2.2.2.2.2.2.2.2.2.2.2.2.2.2.2.2.2.2.2.2.2.2.2.2.2.2.2.1 z.2.2.2.2.2.2.2.2.2.2.2.2.2.2.2.2.2.2.2.2.2.2.2.2.2.2.2.2.2.1 z.2.2.2.2.2.2.2.2.2.2.2.2.2.2.2.2.2.2.2.2.2.2.2.2.2.2.2.2.2.2.1 z.2.2.2.2.2.2.2.2.2.2.2.2.2.2.2.2.2.2.2.2.2.2.2.2.2.2.2.2.2.2.2
noncomputable def zzc : zzT := @Classical.epsilon zzT ⟨(cN, zw, zA, cN, zs, cN, cN, cN, cN, cN, cN, cN, cN, cN, cN, cN, cN, cN, cN, cN, cN, cN, cN, cN, cN, cN, cN, cN, cN, cN, cN, cN)⟩ fun z => ¬ zzS z
theorem zzcore : zzS zzc := by
  show zzQ _ _ _ _ _ _ _ _ _ _ _ _ _ _ _ _ _ _ _ _ _ _ _ _ _ _ _ _ _ _ _ _
  generalize zzc.1 = prog; generalize zzc.2.1 = w; generalize zzc.2.2.1 = A; generalize zzc.2.2.2.1 = E; generalize zzc.2.2.2.2.1 = s; generalize zzc.2.2.2.2.2.1 = env; generalize zzc.2.2.2.2.2.2.1 = h₀; generalize zzc.2.2.2.2.2.2.2.1 = L; generalize zzc.2.2.2.2.2.2.2.2.1 = m; generalize zzc.2.2.2.2.2.2.2.2.2.1 = news; generalize zzc.2.2.2.2.2.2.2.2.2.2.1 = h₂; generalize zzc.2.2.2.2.2.2.2.2.2.2.2.1 = tk₂; generalize zzc.2.2.2.2.2.2.2.2.2.2.2.2.1 = elt; generalize zzc.2.2.2.2.2.2.2.2.2.2.2.2.2.1 = iter; generalize zzc.2.2.2.2.2.2.2.2.2.2.2.2.2.2.1 = x; generalize zzc.2.2.2.2.2.2.2.2.2.2.2.2.2.2.2.1 = x₂; generalize zzc.2.2.2.2.2.2.2.2.2.2.2.2.2.2.2.2.1 = px; generalize zzc.2.2.2.2.2.2.2.2.2.2.2.2.2.2.2.2.2.1 = px₂; generalize zzc.2.2.2.2.2.2.2.2.2.2.2.2.2.2.2.2.2.2.1 = tp; generalize zzc.2.2.2.2.2.2.2.2.2.2.2.2.2.2.2.2.2.2.2.1 = tkk; generalize zzc.2.2.2.2.2.2.2.2.2.2.2.2.2.2.2.2.2.2.2.2.1 = scope; generalize zzc.2.2.2.2.2.2.2.2.2.2.2.2.2.2.2.2.2.2.2.2.2.1 = cl; generalize zzc.2.2.2.2.2.2.2.2.2.2.2.2.2.2.2.2.2.2.2.2.2.2.1 = pos; generalize zzc.2.2.2.2.2.2.2.2.2.2.2.2.2.2.2.2.2.2.2.2.2.2.2.1 = I; generalize zzc.2.2.2.2.2.2.2.2.2.2.2.2.2.2.2.2.2.2.2.2.2.2.2.2.1 = fp; generalize zzc.2.2.2.2.2.2.2.2.2.2.2.2.2.2.2.2.2.2.2.2.2.2.2.2.2.1 = wr; generalize zzc.2.2.2.2.2.2.2.2.2.2.2.2.2.2.2.2.2.2.2.2.2.2.2.2.2.2.1 = n; generalize zzc.2.2.2.2.2.2.2.2.2.2.2.2.2.2.2.2.2.2.2.2.2.2.2.2.2.2.2.1 = P; generalize zzc.2.2.2.2.2.2.2.2.2.2.2.2.2.2.2.2.2.2.2.2.2.2.2.2.2.2.2.2.1 = St; generalize zzc.2.2.2.2.2.2.2.2.2.2.2.2.2.2.2.2.2.2.2.2.2.2.2.2.2.2.2.2.2.1 = Mid; generalize zzc.2.2.2.2.2.2.2.2.2.2.2.2.2.2.2.2.2.2.2.2.2.2.2.2.2.2.2.2.2.2.1 = G; generalize zzc.2.2.2.2.2.2.2.2.2.2.2.2.2.2.2.2.2.2.2.2.2.2.2.2.2.2.2.2.2.2.2 = Q
  intro W hh hs hwr hs1 hn hst hfp F N hcell hkind hx hx₂ hxx K k
  unfold LcP
  refine wpAny_newObj_type (wpAny_newFunctionEnv hcell (by intro y hy; simp at hy) (fun h₁ hns₁ hsb₁ => ?_) hkind)
  dsimp only at hns₁ hsb₁ ⊢
  generalize hH2 : h₂.push { cls := .type "list", dict := none, data := .seq ([] : List Value).toArray } = H2 at hns₁ hsb₁ ⊢
  have hC : @Eq Nat H2.objs.size (h₂.objs.size + 1) := by rw [← hH2, Heap.size_push]
  have hDC : h₂.objs.size ≠ H2.objs.size := Nat.ne_of_lt (by lia)
  have old : ∀ b o, h₂.get? b = some o → h₁.get? b = some o := fun b o e => hsb₁.extBut b o (Nat.ne_of_lt (by have : @LT.lt Nat _ b h₂.objs.size := Heap.lt_size e; lia)) (Heap.get?_push_of_some _ (hH2 ▸ Heap.get?_push_of_some _ e))
  have hacc : h₁.PlainList h₂.objs.size #[] := ⟨_, hsb₁.extBut _ _ hDC (Heap.get?_push_of_some _ (hH2 ▸ Heap.get?_push_size _ rfl))⟩
  have hCf : ∀ b ∈ fp, b ≠ H2.objs.size := fun b hb => Nat.ne_of_lt (by have : @LT.lt Nat _ b h₂.objs.size := hfp b hb; lia)
  have hDf : ∀ b ∈ fp, b ≠ h₂.objs.size := fun b hb => Nat.ne_of_lt (hfp b hb)
  have hCwr : H2.objs.size ∉ wr := fun hm => hCf _ (W.sub _ hm) rfl
  have hDwr : h₂.objs.size ∉ wr := fun hm => hDf _ (W.sub _ hm) rfl
  have old2 : ∀ b o, s.heap.get? b = some o → b ∉ wr ∧ b ≠ H2.objs.size ∧ b ≠ h₂.objs.size := fun b o e => by
    have hb : @LT.lt Nat _ b h₂.objs.size := Heap.lt_size (hs b o e)
    exact ⟨fun hm => (by rw [hwr b hm] at e; cases e), Nat.ne_of_lt (by lia), Nat.ne_of_lt hb⟩
  have loop : ∀ s₃ : Shared, (∃ tk, s₃ = { s with heap := h₁, toks := tk }) →
      codeAny (model prog w) A (.compLoop (.ListComp elt [⟨.Tuple [.Name x px, .Name x₂ px₂] tkk tp, iter, [], 0⟩] scope pos) 0 (.ref I) (.ref h₂.objs.size) (compEnvC scope cl H2.objs.size env))
        (compPost (model prog w) A E none Q (.ref h₂.objs.size) H2.objs.size) s₃ := by
    rintro s₃ ⟨tk₀, rfl⟩
    refine LCp.codeAny_compLoop_pair
      (fun n' s' => ∃ h' tk i ys m', s' = { s with heap := h', toks := tk } ∧ i ≤ n ∧ n' = n + 1 - i ∧ ys.size = i ∧ St i h' ∧ h'.Ns H2.objs.size m' ∧ h'.PlainList h₂.objs.size ys ∧ (∀ b o, s.heap.get? b = some o → h'.get? b = some o) ∧
        (∀ (j : Nat) (y : Value), ys[j]? = some y → ∃ v v₂, P j v v₂ ∧ G v v₂ y)) ?_ (n + 1)
      ⟨h₁, _, 0, #[], _, rfl, Nat.zero_le _, rfl, rfl, W.frame _ _ _ hst fun b _ o e => old b o e, hns₁, hacc, fun b o e => old b o (hs b o e), fun j y e => by simp at e⟩
    rintro n' s' ⟨h', tk, i, ys, m', rfl, hi, rfl, hyl, hst', hn', hpl, hkp, hG⟩
    by_cases hlt : i < n
    · refine W.item i _ _ _ hlt hst' fun T vals h₃ tk₃ hPv _ hT hMid hk₃ => ?_
      obtain ⟨v, v₂, rfl, hP⟩ := hPv
      refine W.go _ _ _ i T _ _ _ hMid fun h₄ hst₄ hk₄ => ?_
      obtain ⟨oT, hoT, hcT, nT, hdT⟩ := hT
      have ht : IsTup h₄ T #[v, v₂] := ⟨oT, hk₄ _ _ (W.apart _ _ _ hMid) hoT, hcT, nT, hdT⟩
      refine assign_Tuple_tuple hh ht rfl rfl fun h₅ he => ?_
      have he' : ∀ b o, h₄.get? b = some o → h₅.get? b = some o := fun b o e => he b o (Nat.ne_of_lt (Heap.lt_size e)) e
      have k45 : ∀ b o, b ∉ wr → h'.get? b = some o → h₅.get? b = some o := fun b o hb e => he' b o (hk₄ b o hb (hk₃ b o hb e))
      refine assignInOrder_cons (wpAny_assign_Name (wpAny_storeName_local (lookup_relabel_local hx) (hn'.at' fun o e => k45 _ o hCwr e) (fun h₆ hn₆ hs₆ => ?_) (by simp [compEnvC, relabel, hkind])))
      refine assignInOrder_cons (wpAny_assign_Name (wpAny_storeName_local (lookup_relabel_local hx₂) hn₆ (fun h₇ hn₇ hs₇ => ?_) (by simp [compEnvC, relabel, hkind])))
      refine assignInOrder_nil ?_
      have k7 : ∀ b o, b ≠ H2.objs.size → h₅.get? b = some o → h₇.get? b = some o := fun b o hb e => hs₇.extBut b o hb (hs₆.extBut b o hb e)
      have ks : ∀ b o, s.heap.get? b = some o → h₇.get? b = some o := fun b o e => k7 b o (old2 b o e).2.1 (k45 b o (old2 b o e).1 (hkp b o e))
      have hL : @LT.lt Nat _ L s.heap.objs.size := F.ns.lt
      have F₇ : Fr h₀ H2.objs.size h₇ _ := ⟨hn₇, fun b o e => ks b o (F.keep b o e), Nat.le_trans F.above (by show @LE.le Nat _ L H2.objs.size; lia)⟩
      have N₇ : News h₀ H2.objs.size h₇ news := fun p hp => ⟨ks _ _ (N p hp).1, (old2 _ _ (N p hp).1).2.1, (N p hp).2.2⟩
      have hst₇ : St (i + 1) h₇ := W.frame _ _ _ hst₄ fun b hb o e => k7 b o (hCf b hb) (he' b o e)
      refine wpAny_mono (K H2.objs.size i v v₂ h₇ s.gens s.drawn _ s.os _ ⟨hlt, hP⟩ F₇ N₇ (by simp [hxx]) (by simp) ks) (fun yv s₈ h₈ => ?_) fun _ _ f => f.elim
      obtain ⟨hGv, h₈, tk₈, rfl, hk₈⟩ := h₈
      obtain ⟨cap, hpl⟩ := hpl
      have zD : h₈.get? h₂.objs.size = some (listOf ys cap) := hk₈ _ _ (k7 _ _ hDC (k45 _ _ hDwr hpl))
      refine append_at (hsz := by rw [PySem.sizeLine_eq]; lia) zD fun h₉ hs₉ hD₉ => ?_
      have k9 : ∀ b o, b ≠ h₂.objs.size → h₇.get? b = some o → h₉.get? b = some o := fun b o hb e => hs₉.extBut b o hb (hk₈ b o e)
      refine ⟨n + 1 - (i + 1), by lia, h₉, tk₈, i + 1, ys.push yv, _, rfl, hlt, rfl, by simp [hyl], W.frame _ _ _ hst₇ fun b hb o e => k9 b o (hDf b hb) e, hn₇.at' fun o e => k9 _ o (Ne.symm hDC) e, ⟨_, hD₉⟩, fun b o e => k9 b o (old2 b o e).2.2 (ks b o e), fun j y e => ?_⟩
      rw [Array.getElem?_push] at e
      split at e
      · rename_i hj
        have hj2 : j = i := by lia
        subst hj2
        cases e
        exact ⟨v, v₂, hP, hGv⟩
      · exact hG j y e
    · have hin : i = n := by lia
      subst hin
      refine W.done _ _ _ hst' fun h₃ tk₃ hk₃ => ?_
      obtain ⟨cap, hpl⟩ := hpl
      refine ⟨m', hn'.at' fun o e => hk₃ _ o hCwr e, fun h₄ sb => ?_⟩
      have k4 : ∀ b o, s.heap.get? b = some o → h₄.get? b = some o := fun b o e => sb.extBut b o (old2 b o e).2.1 (hk₃ b o (old2 b o e).1 (hkp b o e))
      have hDn : s.heap.get? h₂.objs.size = none := Heap.get?_none_of_le hs1
      refine k h₂.objs.size h₄ _ ys cap (F.keeps k4) (fun p hp => ?_) hDn ⟨hyl, hG⟩ k4
      rcases List.mem_cons.mp hp with rfl | hp
      · exact ⟨sb.extBut _ _ hDC (hk₃ _ _ hDwr hpl), (fresh_in F hDn).1, (fresh_in F hDn).2⟩
      · exact ⟨k4 _ _ (N p hp).1, (N p hp).2⟩
  exact codeAny_compStart_list (loop _ ⟨_, rfl⟩) (W.self 0 _ _ _ (W.frame _ _ _ hst fun b _ o e => old b o e) (loop _ ⟨_, rfl⟩))
end comp_pairs_e
theorem comp_pairs {prog : Program} {w : World} {A : Around} {E : Value → Shared → Prop} {s : Shared} {env : Env} {h₀ : Heap} {L : Addr} {m : Str → Option Value} {news : List (Addr × Obj)} {h₂ : Heap} {tk₂ : Nat} {elt iter : Expr} {x x₂ : Str} {px px₂ tp : Pos} {tkk : Nat} {scope : Scope} {cl : List (Str × Addr)} {pos : Pos} {I : Addr} {fp wr : List Addr} {n : Nat} {P : Nat → Value → Value → Prop} {St : Nat → Heap → Prop} {Mid : Nat → Addr → Heap → Prop} {G : Value → Value → Value → Prop} {Q : Value → Shared → Prop}
    (W : WalksT prog w A I fp wr n (fun i vals => ∃ v v₂, vals = #[v, v₂] ∧ P i v v₂) St Mid) (hh : A.handled = none) (hs : ∀ b o, s.heap.get? b = some o → h₂.get? b = some o) (hwr : ∀ b ∈ wr, s.heap.get? b = none) (hs1 : @LE.le Nat _ s.heap.objs.size h₂.objs.size) (hn : n ≤ 1000) (hst : St 0 h₂) (hfp : ∀ b ∈ fp, b < h₂.objs.size) (F : Fr h₀ L s.heap m) (N : News h₀ L s.heap news)
    (hcell : ∀ y ∈ scope.names, y.2 ≠ .cell) (hkind : scope.kind = .function) (hx : scope.names.lookup x = some .local) (hx₂ : scope.names.lookup x₂ = some .local) (hxx : x ≠ x₂)
    (K : EltOk2 prog w A h₀ news env scope cl x x₂ elt (fun i v v₂ => i < n ∧ P i v v₂) G s)
    (k : ∀ D h' tk (ys : Array Value) c, Fr h₀ L h' m → News h₀ L h' ((D, listOf ys c) :: news) → s.heap.get? D = none → Made2 n P G ys → (∀ b o, s.heap.get? b = some o → h'.get? b = some o) → Q (.ref D) { s with heap := h', toks := tk }) : LcP prog w A env elt iter x x₂ px px₂ tp tkk scope cl pos E Q (.ref I) { s with heap := h₂, toks := tk₂ } := epsU (P := comp_pairs_e.zzS) (by with_unfolding_all exact comp_pairs_e.zzcore) (prog, w, A, E, s, env, h₀, L, m, news, h₂, tk₂, elt, iter, x, x₂, px, px₂, tp, tkk, scope, cl, pos, I, fp, wr, n, P, St, Mid, G, Q) W hh hs hwr hs1 hn hst hfp F N hcell hkind hx hx₂ hxx K k
section
variable {prog : Program} {w : World} {A : Around} {E : Value → Shared → Prop} {s : Shared} {env : Env} {h₀ : Heap} {L : Addr} {m : Str → Option Value} {news : List (Addr × Obj)}
end
end Mine.Internal
namespace Mine.Internal
section
variable {prog : Program} {w : World} {A : Around} {E : Value → Shared → Prop} {s : Shared} {env : Env} {h₀ : Heap} {L : Addr} {m : Str → Option Value} {news : List (Addr × Obj)}
theorem call_enum_comp {elt iter : Expr} {x x₂ : Str} {px px₂ tp : Pos} {tkk : Nat} {scope : Scope} {cl : List (Str × Addr)} {pos : Pos} {l : Addr} {vs : List Value} {G : Value → Value → Value → Prop} {Q : Value → Shared → Prop} (_ : CompPair x x₂ G)
    (hh : A.handled = none) (hl : s.heap.IsList l vs.toArray) (hlen : vs.length ≤ 1000) (F : Fr h₀ L s.heap m) (N : News h₀ L s.heap news)
    (hcell : ∀ y ∈ scope.names, y.2 ≠ .cell) (hkind : scope.kind = .function) (hx : scope.names.lookup x = some .local) (hx₂ : scope.names.lookup x₂ = some .local) (hxx : x ≠ x₂)
    (K : EltOk2 prog w A h₀ news env scope cl x x₂ elt (fun i v v₂ => i < vs.length ∧ (∃ t, v = .int (i : Int) t) ∧ vs[i]? = some v₂) G s)
    (k : ∀ D h' tk (ys : Array Value) c, Fr h₀ L h' m → News h₀ L h' ((D, listOf ys c) :: news) → s.heap.get? D = none → Made2 vs.length (fun i v v₂ => (∃ t, v = .int (i : Int) t) ∧ vs[i]? = some v₂) G ys → (∀ b o, s.heap.get? b = some o → h'.get? b = some o) → Q (.ref D) { s with heap := h', toks := tk }) :
    wpAny (model prog w) A (call (.type "enumerate") [.ref l]) (fun xv s₁ => wpAny (model prog w) A (pyIter xv) (fun it s₂ => LcP prog w A env elt iter x x₂ px px₂ tp tkk scope cl pos E Q it s₂) E s₁) E s := by
  obtain ⟨ol, hol, _⟩ := id hl
  have hlt : @LT.lt Nat _ l s.heap.objs.size := Heap.lt_size hol
  refine call_enumerate_list hl fun h' he hit hsz hk => ?_
  have W := WalksT.enumerate (prog := prog) (w := w) (A := A) hh (s.heap.objs.size + 1) s.heap.objs.size l (Nat.ne_of_gt (Nat.lt_succ_self _)) (Nat.ne_of_lt (by lia)) (Nat.ne_of_lt hlt) vs.toArray
  have hsv : vs.toArray.size = vs.length := by simp
  rw [hsv] at W
  have W' : WalksT prog w A (s.heap.objs.size + 1) [s.heap.objs.size + 1, s.heap.objs.size, l] [s.heap.objs.size + 1, s.heap.objs.size] vs.length
      (fun i vals => ∃ v v₂, vals = #[v, v₂] ∧ ((∃ t, v = .int (i : Int) t) ∧ vs[i]? = some v₂)) _ _ :=
    { W with item := fun i s Q E hi st hQ => W.item i s Q E hi st fun T vals h' tk hp => hQ T vals h' tk (by
        obtain ⟨t, x, e1, e2⟩ := hp
        exact ⟨_, x, e2, ⟨t, rfl⟩, by simpa using e1⟩) }
  refine wpAny_pyIter_enum he ?_
  refine comp_pairs (s := s) (tk₂ := s.toks) W' hh hk (fun b hb => ?_) (by lia) hlen ⟨⟨_, he⟩, hit, hl.at fun o e => hk l o e⟩ (fun b hb => ?_) F N hcell hkind hx hx₂ hxx K k
  · rcases List.mem_cons.mp hb with rfl | hb
    · exact Heap.get?_none_of_le (Nat.le_succ _)
    · rw [List.mem_singleton.mp hb]; exact Heap.get?_none_of_le (Nat.le_refl _)
  · show @LT.lt Nat _ b h'.objs.size
    rcases List.mem_cons.mp hb with rfl | hb
    · lia
    · rcases List.mem_cons.mp hb with rfl | hb
      · lia
      · rw [List.mem_singleton.mp hb]; lia
end
theorem Made2.ints {n : Nat} {P : Nat → Value → Value → Prop} {G : Value → Value → Value → Prop} {ys : Array Value} (x : Made2 n P G ys) (f : Nat → Int) (hf : ∀ j v v₂ y, P j v v₂ → G v v₂ y → ∃ t, y = .int (f j) t) : IntsAre ys.toList ((List.range n).map f) := by
  refine ints_mk _ _ (by simp [x.1]) fun j v m a b => ?_
  have hj : j < n := by
    have := (List.getElem?_eq_some_iff.mp a).1
    have h2 := x.1
    simp at this
    lia
  rw [List.getElem?_map, List.getElem?_range hj] at b
  obtain ⟨v1, v2, p, g⟩ := x.2 j v (by simpa using a)
  obtain ⟨t, e⟩ := hf j v1 v2 v p g
  have : m = f j := (Option.some.inj b).symm
  exact ⟨t, by rw [this]; exact e⟩
theorem slice89_eq (vs : List Value) (h : 89 ≤ vs.length) : slicePick vs.toArray none (some 89) none = (vs.take 89).toArray := by
  rw [kms_pick_eq]
  congr 1
  have e1 : kms_lo none vs.length = 0 := by simp [kms_lo]
  have e2 : kms_hi (some 89) vs.length = 89 := by simp [kms_hi]; lia
  show (List.drop (kms_lo none vs.length) vs).take (kms_hi (some 89) vs.length - kms_lo none vs.length) = vs.take 89
  rw [e1, e2]
  simp
theorem slice89_list {h : Heap} {l : Addr} {vs : List Value} (hlen : 89 ≤ vs.length) (hl : h.IsList l (slicePick vs.toArray none (some 89) none)) : h.IsList l (vs.take 89).toArray := by
  rw [slice89_eq vs hlen] at hl; exact hl
noncomputable def GWorth (v v₂ y : Value) : Prop := ∀ i t b t', v = .int i t → v₂ = .int b t' → ∃ t, y = .int (b * 2 ^ i.toNat) t
theorem GWorth.of {i b : Int} {t t' u : Tok} : GWorth (.int i t) (.int b t') (.int (b * 2 ^ i.toNat) u) := fun _ _ _ _ e1 e2 => by cases e1; cases e2; exact ⟨_, rfl⟩
end Mine.Internal
namespace Mine.Internal
theorem bit_ok {n : Int} {j : Nat} (hj : j < 90) (hb : n = 0 ∨ n = 1) : IntMulOk n (2 ^ ((j : Int)).toNat) := by
  refine mul_ok ?_
  have h1 : Builtin.Int.intBits n ≤ 1 := by rcases hb with rfl | rfl <;> decide
  have h2 := (bits_two ((j : Int)).toNat).1
  simp only [Int.toNat_natCast] at h2 ⊢
  lia
theorem worth_made {ws : List Value} {ns : List Int} {ys : Array Value} (I : IntsAre ws (List.take 89 ns)) (hlen : ns.length = 90) (m : Made2 ws.length (fun i v v₂ => (∃ t, v = .int (i : Int) t) ∧ ws[i]? = some v₂) GWorth ys) : IntsAre ys.toList ((List.range 89).map fun j => ns.getD j 0 * 2 ^ ((j : Int)).toNat) := by
  have hq : ws.length = 89 := by have := ints_len I; simp only [List.length_take] at this; lia
  rw [hq] at m
  have m2 : Made2 89 (fun i v v₂ => i < 89 ∧ (∃ t, v = .int (i : Int) t) ∧ ws[i]? = some v₂) GWorth ys := ⟨m.1, fun j y e => by
    obtain ⟨v, v₂, p, g⟩ := m.2 j y e
    have hj := (Array.getElem?_eq_some_iff.mp e).1
    have := m.1
    exact ⟨v, v₂, ⟨by lia, p⟩, g⟩⟩
  refine m2.ints _ fun j v v₂ y p g => ?_
  obtain ⟨hj, ⟨t, rfl⟩, e⟩ := p
  have hn : (List.take 89 ns)[j]? = some (ns[j]'(by lia)) := by rw [List.getElem?_take_of_lt hj]; exact List.getElem?_eq_getElem (by lia)
  obtain ⟨t2, rfl⟩ := ints_item I e hn
  obtain ⟨t3, rfl⟩ := g _ _ _ _ rfl rfl
  refine ⟨t3, ?_⟩
  rw [List.getD_eq_getElem?_getD, List.getElem?_eq_getElem (by lia)]
  rfl
theorem worth_calls {w : World} {h : Heap} (S : Std w h) {l : Addr} {vs : List Value} {ns : List Int} (hl : h.IsList l vs.toArray) (I : IntsAre vs ns) (hlen : ns.length = 90) (hb : ∀ (i : Nat) (n : Int), ns[i]? = some n → n = 0 ∨ n = 1) : Calls w 370 (.ref 747) [.ref l] h (fun v _ => ∃ t, v = .int (((List.range 89).map fun j => ns.getD j 0 * 2 ^ ((j : Int)).toNat).sum - ns.getD (Int.toNat 89) 0 * 2 ^ Int.toNat 89) t) := by
 k_with "e_q" =>
  revert S hl I hlen hb
  revert w h l vs ns
  refine no_implicit_lambda% (epsT5 (ne := ⟨(Mine.Internal.zw, cN, cN, cN, cN)⟩) ?_); generalize pj1 _ = w; generalize pj2 _ = h; generalize pj3 _ = l; generalize pj4 _ = vs; generalize pl5 _ = ns
  intro S hl I hlen hb
  have zOn : ZOn := .mk
  have hvl : vs.length = 90 := by rw [ints_len I, hlen]
  k_with "m_l89" => lia
  k_with "m_size" => (have zq := ints_len (by assumption : IntsAre _ (List.take 89 ns)); simp only [List.length_take] at zq; lia)
  k_with "m_elt" => (obtain ⟨zi9, ⟨zt, zv'⟩, zhv⟩ := zP; subst zv'; have zq := ints_len (by assumption : IntsAre _ (List.take 89 ns)); simp only [List.length_take] at zq; have zi8 : zi < 89 := (by lia); have zin : (List.take 89 ns)[zi]? = some (ns[zi]'(by lia)) := (by rw [List.getElem?_take_of_lt zi8]; exact List.getElem?_eq_getElem (by lia)); obtain ⟨zt2, zv2'⟩ := ints_item (by assumption : IntsAre _ (List.take 89 ns)) zhv zin; subst zv2'; have zok := bit_ok (j := zi) (by lia) (hb zi _ (List.getElem?_eq_getElem (by lia))))
  k_with "m_eclose" => exact GWorth.of
  k_with "m_made" => (obtain ⟨zyl⟩ := zys; have zI := worth_made (by assumption) hlen zmd)
  have zok89 : IntMulOk (ns.getD (Int.toNat 89) 0) (2 ^ Int.toNat 89) := bit_ok (j := 89) (by lia) (hb 89 _ (by rw [List.getElem?_eq_getElem (by lia)]; congr 1; rw [List.getD_eq_getElem?_getD, List.getElem?_eq_getElem (by show 89 < _; lia)]; rfl))
  have hG : CompPair (Str.ofString "at") (Str.ofString "own") GWorth := .mk
  walk_at "m_enter"
  k_steps
 k_extra "e_Q"
end Mine.Internal
namespace Mine.Internal
section
variable {w : World} {A : Around} {s : Shared} {E : Value → Shared → Prop} {Q : Value → Shared → Prop}
theorem enterL {f : Addr} {name qual : Str} {params : Arguments} {body : Expr} {scope : Scope} {cl : List (Str × Addr)} {pm ctv : Value} {c' : Addr}
    (S : Std w s.heap) (ho : s.heap.get? f = some (kla_obj name qual params body scope cl pm c' ctv)) (hcd : s.heap.CodeRec (.ref c') qual) (hroom : A.depth < recursionLimit)
    (hbind : bindArgs (kla_fn name qual params body scope cl pm (.ref c') ctv) ⟨[], []⟩ = pure [])
    (hb : ∀ (L' : Addr) (h₁ : Heap) (tk : Nat), Fr s.heap L' h₁ (fun y => ([] : List (Str × Value)).reverse.lookup y) → 
      wpAny (model Challenge.rw_np0089_01.row.prog w) (A.deeper (envX qual scope L' f (.ref c') cl)) (eval body (envX qual scope L' f (.ref c') cl))
        (fun v s' => Q v s')
        (fun e s' => wpAny (model Challenge.rw_np0089_01.row.prog w) (A.deeper (envX qual scope L' f (.ref c') cl)) (leaving (envX qual scope L' f (.ref c') cl) e) (fun _ s'' => E e s'') (fun e' s'' => E e' s'') s') { s with heap := h₁, toks := tk })
    (hco : scope.isCoroutine = false) (hgen : scope.isGenerator = false) (hk : scope.kind = .function)
    (hcell : ∀ x ∈ scope.names, x.2 ≠ .cell) : wpAny (model Challenge.rw_np0089_01.row.prog w) A (call (.ref f) []) Q E s := by
  obtain ⟨X, p, l, me, mg, mb, T⟩ := S
  refine wpAny_call ?_
  refine kla_callFunE hroom ho rfl hco hgen rfl hcd ?_
  rw [hbind]
  refine wpAny_pure (wpAny_newFunctionEnv hcell (fun y hy => nomatch hy) (fun h₁ hns hsb => ⟨T.nolimit.fresh _ hsb, ?_⟩) hk)
  show codeAny _ _ (.expr body (envX qual scope s.heap.objs.size f (.ref c') cl)) _ _
  have hk₁ : ∀ b o, s.heap.get? b = some o → h₁.get? b = some o := fun b o e => hsb.extBut b o (Nat.ne_of_lt (Heap.lt_size e)) (Heap.get?_push_of_some _ e)
  exact kla_codeExpr (wpAny_mono (hb s.heap.objs.size h₁ _ ⟨hns, hk₁, Nat.le_refl _⟩) (fun v s' hl => hl) fun _ _ y => y)
end
theorem Calls.lam {w : World} {n : Nat} {h : Heap} {P : Value → Heap → Prop} {f : Addr} {name qual : Str} {params : Arguments} {body : Expr} {scope : Scope} {cl : List (Str × Addr)} {pm ctv : Value} {c' : Addr}
    (S : Std w h) (ho : h.get? f = some (kla_obj name qual params body scope cl pm c' ctv)) (hcd : h.CodeRec (.ref c') qual) (hroom : n < recursionLimit)
    (hbind : bindArgs (kla_fn name qual params body scope cl pm (.ref c') ctv) ⟨[], []⟩ = pure [])
    (hb : ∀ (L' : Addr) (h₁ : Heap) (s : Shared) (tk : Nat), Fr h L' h₁ (fun y => ([] : List (Str × Value)).reverse.lookup y) → News h L' h₁ [] →
      wpAny (model Challenge.rw_np0089_01.row.prog w) ((At n).deeper (envX qual scope L' f (.ref c') cl)) (eval body (envX qual scope L' f (.ref c') cl))
        (fun v s' => Ret h P s v s') (fun _ _ => False) { s with heap := h₁, toks := tk })
    (hco : scope.isCoroutine = false) (hgen : scope.isGenerator = false) (hk : scope.kind = .function)
    (hcell : ∀ x ∈ scope.names, x.2 ≠ .cell) : Calls w n (.ref f) [] h P := by
  intro A s Q E hh hd hu hs k
  subst hs
  refine lift hh hd hu (enterL S ho hcd hroom hbind (fun L' h₁ tk F => ?_) hco hgen hk hcell)
  refine wpAny_mono (hb L' h₁ s tk F (fun _ h => nomatch h)) (fun v s' r => ?_) fun _ _ x => x.elim
  obtain ⟨h', tk', rfl, st, p⟩ := r
  exact k _ _ _ st p
theorem Raises.lam {w : World} {n : Nat} {h : Heap} {sym : Str} {f : Addr} {name qual : Str} {params : Arguments} {body : Expr} {scope : Scope} {cl : List (Str × Addr)} {pm ctv : Value} {c' : Addr}
    (S : Std w h) (ho : h.get? f = some (kla_obj name qual params body scope cl pm c' ctv)) (hcd : h.CodeRec (.ref c') qual) (hroom : n < recursionLimit)
    (hbind : bindArgs (kla_fn name qual params body scope cl pm (.ref c') ctv) ⟨[], []⟩ = pure [])
    (hb : ∀ (L' : Addr) (h₁ : Heap) (s : Shared) (tk : Nat) (l : List Env) (B0 : Heap), h.FunFrames B0 l → Fr h L' h₁ (fun y => ([] : List (Str × Value)).reverse.lookup y) → News h L' h₁ [] →
      wpAny (model Challenge.rw_np0089_01.row.prog w) ((AtR n l).deeper (envX qual scope L' f (.ref c') cl)) (eval body (envX qual scope L' f (.ref c') cl))
        (fun _ _ => False) (Up h l (envX qual scope L' f (.ref c') cl) sym s) { s with heap := h₁, toks := tk })
    (hco : scope.isCoroutine = false) (hgen : scope.isGenerator = false) (hk : scope.kind = .function)
    (hcell : ∀ x ∈ scope.names, x.2 ≠ .cell) : Raises w n (.ref f) [] h sym := by
  intro A s l B0 Q E hh hd hu hfr hl hs k
  subst hs
  refine liftR hh hd hu hfr (enterL S ho hcd hroom hbind (fun L' h₁ tk F => ?_) hco hgen hk hcell)
  refine wpAny_mono (hb L' h₁ s tk l B0 hl F (fun _ h => nomatch h)) (fun fl s' r => r.elim) fun v s' u => ?_
  obtain ⟨e, h2, tk2, fl, rfl, rfl, ⟨k1, k2, d, tk0, m0, ⟨nd, nb⟩, sg, n5, n6⟩, u⟩ := u
  unfold leaving
  refine wpAny_bind (noteX rfl k2 rfl k1 sg fun h3 a1 a2 a3 a4 => setTb (o := none) (s := { s with heap := h3, toks := tk2 }) a2 a1 a3 fun h4 b1 b2 b3 b4 => ?_)
  exact k e h4 tk2 ⟨b1, b2.2.2, d, tk0, m0, ⟨fun hm => nd (List.mem_cons_of_mem _ hm), nb⟩, b3, (a4.trans b4).ns n5, n6⟩ (u.trans (a4.trans b4))
section
variable {M : Model} {A : Around} {E : Value → Shared → Prop} {s : Shared} {h₀ : Heap} {env : Env} {L : Addr} {m : Str → Option Value}
theorem ldFreeG {x : Str} {pos : Pos} {v : Value} {c : Addr} {o : Obj} {Q : Value → Shared → Prop} (hl : env.kindOf x = some .free) (hk : env.scope.kind = .function) (F : Fr h₀ L s.heap m) (hc : env.cells.lookup x = some c) (hm : h₀.get? c = some o) (hd : o.data = .cell (some v)) (h : Q v s)
    (hb : (x == ("__debug__" : Str)) = false) (hn : (x == ("__classdict__" : Str)) = false) : wpAny M A (eval (.Name x pos) env) Q E s :=
  wpAny_Name (wpAny_loadName_free hk hl hc ⟨o, F.keep _ _ hm, hd⟩ h hn) hb
end
end Mine.Internal
namespace Mine.Internal
noncomputable abbrev noArgs : Arguments := { posonlyargs := [], args := [], vararg := none, kwonlyargs := [], kw_defaults := [], kwarg := none, defaults := [] }
noncomputable abbrev powScope : Scope := { kind := .function, names := [(Str.ofString "exponent", .free), (Str.ofString "number", .free), (Str.ofString "power", .globalImplicit)], isGenerator := false, isCoroutine := false, more := [] }
noncomputable abbrev powBody (p1 p2 p3 p4 p5 p6 : Pos) : Expr := .Call (.Name "power" p1) [.Constant Const.none 0 p2, .List [.Name "number" p3, .Name "exponent" p4] p5] [] p6
section
variable {w : World} {h : Heap} {f c' ce cn : Addr} {name qual : Str} {pm ctv : Value} {p1 p2 p3 p4 p5 p6 : Pos} {oe on : Obj} {b e : Int} {tb te : Tok}
theorem lam_power_neg (S : Std w h) (ho : h.get? f = some (kla_obj name qual noArgs (powBody p1 p2 p3 p4 p5 p6) powScope [(Str.ofString "number", cn), (Str.ofString "exponent", ce)] pm c' ctv)) (hcd : h.CodeRec (.ref c') qual)
    (h1 : h.get? ce = some oe) (h2 : oe.data = .cell (some (.int e te))) (h3 : h.get? cn = some on) (h4 : on.data = .cell (some (.int b tb))) (he : e < 0) : Raises w 378 (.ref f) [] h (Str.ofString "args-out-of-range") := by
 k_with "e_q" =>
  walk_at "m_rlam"
  k_steps
 k_extra "e_Q"
theorem lam_power_small (S : Std w h) (ho : h.get? f = some (kla_obj name qual noArgs (powBody p1 p2 p3 p4 p5 p6) powScope [(Str.ofString "number", cn), (Str.ofString "exponent", ce)] pm c' ctv)) (hcd : h.CodeRec (.ref c') qual)
    (h1 : h.get? ce = some oe) (h2 : oe.data = .cell (some (.int e te))) (h3 : h.get? cn = some on) (h4 : on.data = .cell (some (.int b tb))) (he : 0 ≤ e) (hb : (if b < 0 then -b else b) < 2) : Calls w 378 (.ref f) [] h (fun v _ => ∃ t, v = .int (b ^ e.toNat) t) := by
 k_with "e_q" =>
  walk_at "m_lam"
  k_steps
 k_extra "e_Q"
end
end Mine.Internal
namespace Mine.Internal
noncomputable def CallsT (w : World) (n : Nat) (f : Value) (args : List Value) (B : Heap) (tab : Addr) (P : Value → Heap → Prop) : Prop :=
  ∀ (A : Around) (s : Shared) (l : List Env) (Q E : Value → Shared → Prop), A.handled = none → A.depth ≤ n → A.units ≤ 8 * n → A.frames = some l → B.StaysIn s.heap → s.heap.FunFrames B l → s.heap.get? tab = some (tabObj #[]) →
    (∀ v h' tk', B.StaysIn h' → s.heap.UpToSlots h' → (∃ ps, h'.get? tab = some (tabObj ps) ∧ TriplesOk ps.toList) → P v h' → Q v { s with heap := h', toks := tk' }) → wpAny (model Challenge.rw_np0089_01.row.prog w) A (call f args) Q E s
noncomputable def RetT (B h : Heap) (tab : Addr) (P : Value → Heap → Prop) (s : Shared) (v : Value) (s' : Shared) : Prop :=
  ∃ h' tk', s' = { s with heap := h', toks := tk' } ∧ B.StaysIn h' ∧ h.UpToSlots h' ∧ (∃ ps, h'.get? tab = some (tabObj ps) ∧ TriplesOk ps.toList) ∧ P v h'
theorem RetT.intro {B h g h' : Heap} {tab : Addr} {l : List Env} {P : Value → Heap → Prop} {s : Shared} {v : Value} {tk' : Nat} {L : Addr} {m : Str → Option Value} {news : List (Addr × Obj)} {ps : Array Value} (G : Gr B h g l) (F : Fr g L h' m) (N : News g L h' news) (hm : (tab, tabObj ps) ∈ news) (ht : TriplesOk ps.toList) (p : P v h') :
    RetT B h tab P s v { s with heap := h', toks := tk' } :=
  ⟨h', tk', rfl, fun b o q => F.keep b o (G.base b o q), G.up.trans (.of_keeps F.keep), ⟨ps, (N _ hm).1, ht⟩, p⟩
theorem Gr.table {B h : Heap} {l : List Env} {tab : Addr} {ps : Array Value} (hst : B.StaysIn h) (hl : h.FunFrames B l) (hB : B.get? tab = none) (ht : h.get? tab = some (tabObj ps)) : Gr B h (h.hide tab) l := by
  have ne : ∀ b o, h.get? b = some o → (∀ vs, o.data ≠ .fields vs) → b ≠ tab := fun b o q hnf e => by
    rw [e, ht] at q; cases q; exact hnf _ rfl
  exact ⟨fun b o q => (Heap.hide_ne h fun (e : b = tab) => by rw [e, hB] at q; cases q).trans (hst b o q), fun b o q hnf => ⟨o.slots, (Heap.hide_ne h (ne b o q hnf)).trans q⟩, hl.of_keeps fun b o q hnf => ⟨o, (Heap.hide_ne h (ne b o q hnf)).trans q, rfl⟩⟩
theorem CallsT.fnC {w : World} {n : Nat} {f : Addr} {args : List Value} {B : Heap} {c tab : Addr} {P : Value → Heap → Prop}
    {name qual : Str} {params : Arguments} {body : List Stmt} {scope : Scope} {dV kV doc pm cdv ct oc : Value} {an od : Option Addr} {osl : Array (Option Value)} {binds : List (Str × Value)}
    (S : Std w B) (C : CodeHd B c tab) (hBt : B.get? tab = none) (ho : (Mine.hd.heap_39 w.params).lookup f = some ⟨oc, od, .func (fnOf name qual params body scope dV kV doc pm an cdv ct), osl⟩)
    (hcd : codeIn (Mine.hd.heap_39 w.params) cdv qual = true) (hroom : n < recursionLimit)
    (hbind : ∀ s, BindsTo s (fnOf name qual params body scope dV kV doc pm an cdv ct) ⟨args, []⟩ binds) (hkind : (binds.all fun y => scope.names.lookup y.1 == some .local || scope.names.lookup y.1 == some .cell) = true)
    (hnd : ((cellsFrom 0 scope.names []).map (·.1)).Nodup)
    (hb : ∀ (L' : Addr) (h g h₁ : Heap) (s : Shared) (tk : Nat) (l : List Env) (cells : List (Addr × Obj)), Gr B h g l → Std w g → CodeHd g c tab → Fr g L' h₁ (bindL (envOfC qual scope L' f cdv).kindOf binds fun _ => none) → News g L' h₁ (cells ++ [(tab, tabObj #[])]) →
      CellsAre (bindC (envOfC qual scope L' f cdv).kindOf binds fun _ => none) (cellsFrom (L' + 1) scope.names []) cells → @LT.lt Nat _ tab L' →
      wpAny (model Challenge.rw_np0089_01.row.prog w) ((AtR n l).deeper (envOfC qual scope L' f cdv)) (execs body (envOfC qual scope L' f cdv))
        (fun fl s' => RetT B h tab P s (flv fl) s') (fun _ _ => False) { s with heap := h₁, toks := tk })
    (hco : scope.isCoroutine = false) (hgen : scope.isGenerator = false) (hk : scope.kind = .function) : CallsT w n (.ref f) args B tab P := by
  intro A s l Q E hh hd hu hfr hst hl htab k
  have G := Gr.table hst hl hBt htab
  refine liftR hh hd hu hfr (enterC (S.keeps hst) ho hcd hroom hbind hkind hnd (fun L' h₁ tk cells F N Y => ?_) hco hgen hk)
  have hlt : @LT.lt Nat _ tab L' := Nat.lt_of_lt_of_le (Heap.lt_size htab) F.above
  have F' : Fr (s.heap.hide tab) L' h₁ _ := ⟨F.ns, fun b o q => F.keep b o (Heap.of_hide q), Nat.le_trans (Nat.le_of_eq (Heap.hide_size _ _)) F.above⟩
  refine wpAny_mono (hb L' s.heap (s.heap.hide tab) h₁ s tk l cells G (S.keeps G.base) (C.keeps G.base) F' (fun p hp => ?_) Y hlt) (fun fl s' r => ?_) fun _ _ x => x.elim
  · rcases List.mem_append.mp hp with hp | hp
    · refine ⟨(N p hp).1, (N p hp).2.1, ?_⟩
      cases q : (s.heap.hide tab).get? p.1 with
      | none => rfl
      | some o => have := Heap.of_hide q; rw [(N p hp).2.2] at this; cases this
    · rw [List.mem_singleton.mp hp]
      exact ⟨F.keep _ _ htab, Nat.ne_of_lt hlt, Heap.hide_self _ _⟩
  · obtain ⟨h', tk', rfl, a1, a2, a3, a4⟩ := r
    exact k _ _ _ a1 a2 a3 a4
section
variable {w : World} {B h g : Heap} {l : List Env} {L : Addr} {s : Shared} {m : Str → Option Value} {news : List (Addr × Obj)} {A : Around} {Q E : Value → Shared → Prop}
  {f c' : Addr} {name qual : Str} {params : Arguments} {body : Expr} {scope : Scope} {cl : List (Str × Addr)} {pm ctv : Value} {oc : Obj} {vs : Array Value} {t : Tok}
theorem told_okN {P : Value → Heap → Prop} (S : Std w g) (F : Fr g L s.heap m) (N : News g L s.heap news) (hm : (f, kla_obj name qual params body scope cl pm c' ctv) ∈ news) (hmc : (c', oc) ∈ news) (hd : oc.data = .fields vs) (hq : vs[1]? = some (.str qual t))
    (hf : ∀ h', s.heap.StaysIn h' → Std w h' → h'.get? f = some (kla_obj name qual params body scope cl pm c' ctv) → h'.CodeRec (.ref c') qual → Calls w 378 (.ref f) [] h' P)
    (k : ∀ v h' tk', P v h' → Fr g L h' m → News g L h' news → (∀ b o, s.heap.get? b = some o → h'.get? b = some o) → Q v { s with heap := h', toks := tk' })
    (hh : autoParam (A.handled = none) auR) (hd : autoParam (A.depth ≤ 377) auL) (hu : autoParam (A.units ≤ 8 * 377) auL) :
    wpAny (model Challenge.rw_np0089_01.row.prog w) A (call (.ref 723) [.ref f]) Q E s := by
  have Sh := S.keeps F.keep
  refine Calls.use2 (told_ok Sh (N _ hm).1 rfl fun h' st => hf h' st (Sh.keeps st) (st _ _ (N _ hm).1) ⟨c', oc, vs, t, rfl, st _ _ (N _ hmc).1, ‹oc.data = .fields vs›, hq⟩) F N k hh hd hu
theorem told_raiseN {sym : Str} {cname : Str} {cs : Scope} {a : Addr} {cd : Value} {ccl : List (Str × Addr)} (S : Std w B) (G : Gr B h g l) (F : Fr g L s.heap m) (N : News g L s.heap news) (hfr : A.frames = some (envX cname cs L a cd ccl :: l)) (hk : cs.kind ≠ .module)
    (hm : (f, kla_obj name qual params body scope cl pm c' ctv) ∈ news) (hmc : (c', oc) ∈ news) (hdd : oc.data = .fields vs) (hq : vs[1]? = some (.str qual t))
    (hf : ∀ h', (∀ p ∈ news, h'.get? p.1 = some p.2) → Std w h' → B.StaysIn h' → h'.get? f = some (kla_obj name qual params body scope cl pm c' ctv) → h'.CodeRec (.ref c') qual → Raises w 378 (.ref f) [] h' sym)
    (k : ∀ g' tk v h' tk', v = .str sym tk → Gr B h g' l → Std w g' → Fr g' L h' m → News g' L h' news → Q v { s with heap := h', toks := tk' })
    (hh : autoParam (A.handled = none) auR) (hd : autoParam (A.depth ≤ 377) auL) (hu : autoParam (A.units ≤ 8 * 377) auL) :
    wpAny (model Challenge.rw_np0089_01.row.prog w) A (call (.ref 723) [.ref f]) Q E s := by
  refine CallsR.use (P := fun v _ => ∃ tk, v = .str sym tk) G F N hfr hk (fun D hBD hN => told_raise (sym := sym) (S.keeps hBD) (hN _ hm) rfl fun h' st => ?_) (fun g' v h' tk' p G' F' N' => ?_) hh hd hu
  · exact hf h' (fun p hp => st _ _ (hN p hp)) ((S.keeps hBD).keeps st) (fun b o q => st _ _ (hBD _ _ q)) (st _ _ (hN _ hm)) ⟨c', oc, vs, t, rfl, st _ _ (hN _ hmc), hdd, hq⟩
  · obtain ⟨tk, e⟩ := p
    exact k g' tk v h' tk' e G' (S.keeps G'.base) F' N'
end
end Mine.Internal
namespace Mine.Internal
theorem bits_and_calls {w : World} {h : Heap} (S : Std w h) {l : Addr} {vs : List Value} {ns : List Int} (hl : h.IsList l vs.toArray) (V : NumsAt h vs ns) : Calls w 380 (.ref 382) [.none, .ref l] h (fun v _ => ∃ t, v = .int (ns.foldl (fun a n => Builtin.bitAnd a n) (-1)) t) := by
 k_with "e_q" =>
  revert S hl V
  revert w h l vs ns
  refine no_implicit_lambda% (epsT5 (ne := ⟨(Mine.Internal.zw, cN, cN, cN, cN)⟩) ?_); generalize pj1 _ = w; generalize pj2 _ = h; generalize pj3 _ = l; generalize pj4 _ = vs; generalize pl5 _ = ns
  intro S hl V
  have zOn : ZOn := .mk
  k_with "m_len" => exact NumsAt.len (by assumption)
  k_with "m_item" => (have zV := NumsAt.item (by assumption) zhv zhn)
  have hg : FoldWith (Str.ofString "found") (fun a n => Builtin.bitAnd a n) := trivial
  walk_at "m_enter"
  k_steps
 k_extra "e_Q"
theorem bits_or_calls {w : World} {h : Heap} (S : Std w h) {l : Addr} {vs : List Value} {ns : List Int} (hl : h.IsList l vs.toArray) (V : NumsAt h vs ns) : Calls w 380 (.ref 389) [.none, .ref l] h (fun v _ => ∃ t, v = .int (ns.foldl (fun a n => Builtin.bitOr a n) (0)) t) := by
 k_with "e_q" =>
  revert S hl V
  revert w h l vs ns
  refine no_implicit_lambda% (epsT5 (ne := ⟨(Mine.Internal.zw, cN, cN, cN, cN)⟩) ?_); generalize pj1 _ = w; generalize pj2 _ = h; generalize pj3 _ = l; generalize pj4 _ = vs; generalize pl5 _ = ns
  intro S hl V
  have zOn : ZOn := .mk
  k_with "m_len" => skip
  k_with "m_item" => skip
  k_with "m_len" => exact NumsAt.len (by assumption)
  k_with "m_item" => (have zV := NumsAt.item (by assumption) zhv zhn)
  have hg : FoldWith (Str.ofString "found") (fun a n => Builtin.bitOr a n) := trivial
  walk_at "m_enter"
  k_steps
 k_extra "e_Q"
theorem bits_xor_calls {w : World} {h : Heap} (S : Std w h) {l : Addr} {vs : List Value} {ns : List Int} (hl : h.IsList l vs.toArray) (V : NumsAt h vs ns) : Calls w 380 (.ref 396) [.none, .ref l] h (fun v _ => ∃ t, v = .int (ns.foldl (fun a n => Builtin.bitXor a n) (0)) t) := by
 k_with "e_q" =>
  revert S hl V
  revert w h l vs ns
  refine no_implicit_lambda% (epsT5 (ne := ⟨(Mine.Internal.zw, cN, cN, cN, cN)⟩) ?_); generalize pj1 _ = w; generalize pj2 _ = h; generalize pj3 _ = l; generalize pj4 _ = vs; generalize pl5 _ = ns
  intro S hl V
  have zOn : ZOn := .mk
  k_with "m_len" => skip
  k_with "m_item" => skip
  k_with "m_len" => exact NumsAt.len (by assumption)
  k_with "m_item" => (have zV := NumsAt.item (by assumption) zhv zhn)
  have hg : FoldWith (Str.ofString "found") (fun a n => Builtin.bitXor a n) := trivial
  walk_at "m_enter"
  k_steps
 k_extra "e_Q"

end Mine.Internal
namespace Mine.Internal
theorem one_more_calls {w : World} {h : Heap} (S : Std w h) {l : Addr} {v : Value} {n : Int} (hl : h.IsList l [v].toArray) (V : NumAt h v n) (hf : (Builtin.Int.intBits (n + 1) : Int) ≤ 65536) : Calls w 380 (.ref 304) [.none, .ref l] h (fun v _ => ∃ t, v = .int (n + 1) t) := by
 k_with "e_q" =>
  walk_at "m_enter"
  k_steps
 k_extra "e_Q"
theorem one_less_calls {w : World} {h : Heap} (S : Std w h) {l : Addr} {v : Value} {n : Int} (hl : h.IsList l [v].toArray) (V : NumAt h v n) (hf : (Builtin.Int.intBits (n - 1) : Int) ≤ 65536) : Calls w 380 (.ref 311) [.none, .ref l] h (fun v _ => ∃ t, v = .int (n - 1) t) := by
 k_with "e_q" =>
  walk_at "m_enter"
  k_steps
 k_extra "e_Q"
theorem magnitude_calls {w : World} {h : Heap} (S : Std w h) {l : Addr} {n : Int} {t : Tok} (hl : h.IsList l [Value.int n t].toArray) : Calls w 380 (.ref 375) [.none, .ref l] h (fun v _ => ∃ t, v = .int (if n < 0 then -n else n) t) := by
 k_with "e_q" =>
  walk_at "m_enter"
  k_steps
 k_extra "e_Q"
theorem bits_not_calls {w : World} {h : Heap} (S : Std w h) {l : Addr} {n : Int} {t : Tok} (hl : h.IsList l [Value.int n t].toArray) : Calls w 380 (.ref 403) [.none, .ref l] h (fun v _ => ∃ t, v = .int (-1 - n) t) := by
 k_with "e_q" =>
  walk_at "m_enter"
  k_steps
 k_extra "e_Q"

end Mine.Internal
namespace Mine.Internal
theorem is_nought_calls {w : World} {h : Heap} (S : Std w h) {l : Addr} {v : Value} {n : Int} (hl : h.IsList l [v].toArray) (V : NumAt h v n) : Calls w 380 (.ref 431) [.none, .ref l] h (fun v _ => v = .ref (if n == 0 then 67 else 64)) := by
 k_with "e_q" =>
  revert S hl V
  revert w h l v n
  refine no_implicit_lambda% (epsT5 (ne := ⟨(Mine.Internal.zw, cN, cN, cN, cN)⟩) ?_); generalize pj1 _ = w; generalize pj2 _ = h; generalize pj3 _ = l; generalize pj4 _ = v; generalize pl5 _ = n
  intro S hl V
  have zOn : ZOn := .mk
  walk_at "m_enter"
  k_steps
 k_extra "e_Q"
theorem is_natural_calls {w : World} {h : Heap} (S : Std w h) {l : Addr} {n : Int} {t : Tok} (hl : h.IsList l [Value.int n t].toArray) : Calls w 380 (.ref 438) [.none, .ref l] h (fun v _ => v = .ref (if decide (0 ≤ n) then 67 else 64)) := by
 k_with "e_q" =>
  revert S hl
  revert w h l n t
  refine no_implicit_lambda% (epsT5 (ne := ⟨(Mine.Internal.zw, cN, cN, cN, cN)⟩) ?_); generalize pj1 _ = w; generalize pj2 _ = h; generalize pj3 _ = l; generalize pj4 _ = n; generalize pl5 _ = t
  intro S hl
  have zOn : ZOn := .mk
  walk_at "m_enter"
  k_steps
 k_extra "e_Q"
theorem unlike_calls {w : World} {h : Heap} (S : Std w h) {l : Addr} {v v' : Value} {n m : Int} (hl : h.IsList l [v, v'].toArray) (V : NumAt h v n) (V' : NumAt h v' m) : Calls w 380 (.ref 358) [.none, .ref l] h (fun v _ => v = .ref (if n != m then 67 else 64)) := by
 k_with "e_q" =>
  revert S hl V V'
  revert w h l v v' n m
  refine no_implicit_lambda% (epsT7 (ne := ⟨(Mine.Internal.zw, cN, cN, cN, cN, cN, cN)⟩) ?_); generalize pj1 _ = w; generalize pj2 _ = h; generalize pj3 _ = l; generalize pj4 _ = v; generalize pj5 _ = v'; generalize pj6 _ = n; generalize pl7 _ = m
  intro S hl V V'
  have zOn : ZOn := .mk
  walk_at "m_enter"
  k_steps
 k_extra "e_Q"
theorem remainder_calls {w : World} {h : Heap} (S : Std w h) {l : Addr} {v v' : Value} {n m : Int} (hl : h.IsList l [v, v'].toArray) (V : NumAt h v n) (V' : NumAt h v' m) (hm : m ≠ 0) (hb : m.natAbs.log2 < 9000) (ho : IntMulOk m (cutV n m)) : Calls w 380 (.ref 290) [.none, .ref l] h (fun v _ => ∃ t, v = .int (n - m * cutV n m) t) := by
 k_with "e_q" =>
  revert S hl V V' hm hb ho
  revert w h l v v' n m
  refine no_implicit_lambda% (epsT7 (ne := ⟨(Mine.Internal.zw, cN, cN, cN, cN, cN, cN)⟩) ?_); generalize pj1 _ = w; generalize pj2 _ = h; generalize pj3 _ = l; generalize pj4 _ = v; generalize pj5 _ = v'; generalize pj6 _ = n; generalize pl7 _ = m
  intro S hl V V' hm hb ho
  have zOn : ZOn := .mk
  walk_at "m_enter"
  k_steps
 k_extra "e_Q"
theorem modulo_calls {w : World} {h : Heap} (S : Std w h) {l : Addr} {v v' : Value} {n m : Int} (hl : h.IsList l [v, v'].toArray) (V : NumAt h v n) (V' : NumAt h v' m) (hm : m ≠ 0) (hb : m.natAbs.log2 < 9000) (ho : IntMulOk m (Int.fdiv n m)) : Calls w 380 (.ref 297) [.none, .ref l] h (fun v _ => ∃ t, v = .int (n - m * Int.fdiv n m) t) := by
 k_with "e_q" =>
  revert S hl V V' hm hb ho
  revert w h l v v' n m
  refine no_implicit_lambda% (epsT7 (ne := ⟨(Mine.Internal.zw, cN, cN, cN, cN, cN, cN)⟩) ?_); generalize pj1 _ = w; generalize pj2 _ = h; generalize pj3 _ = l; generalize pj4 _ = v; generalize pj5 _ = v'; generalize pj6 _ = n; generalize pl7 _ = m
  intro S hl V V' hm hb ho
  have zOn : ZOn := .mk
  walk_at "m_enter"
  k_steps
 k_extra "e_Q"

end Mine.Internal
namespace Mine.Internal
inductive JoinAt (pos : Pos) (r : Int) : Prop
  | mk
noncomputable def JoinPost (g : Heap) (L : Addr) (m : Str → Option Value) (news : List (Addr × Obj)) (r : Int) (s : Shared) (v : Value) (s' : Shared) : Prop :=
  ∃ t h' tk, v = .int r t ∧ s' = { s with heap := h', toks := tk } ∧ Fr g L h' m ∧ News g L h' news
theorem JoinPost.intro {g h' : Heap} {L : Addr} {m : Str → Option Value} {news : List (Addr × Obj)} {r x : Int} {s : Shared} {t : Tok} {tk : Nat} (F : Fr g L h' m) (N : News g L h' news) (e : x = r) : JoinPost g L m news r s (.int x t) { s with heap := h', toks := tk } :=
  ⟨t, h', tk, by rw [e], rfl, F, N⟩
section
variable {prog : Program} {w : World} {A : Around} {E : Value → Shared → Prop} {s : Shared} {env : Env} {g : Heap} {L : Addr} {m : Str → Option Value} {news : List (Addr × Obj)}
theorem ifexp_join {test a b : Expr} {pos : Pos} {r : Int} {Q : Value → Shared → Prop} (_ : JoinAt pos r) (F : Fr g L s.heap m) (N : News g L s.heap news)
    (h : wpAny (model prog w) A (isTrue test env (eval test env)) (fun c s₁ => if c = true then wpAny (model prog w) A (eval a env) (JoinPost g L m news r s) E s₁ else wpAny (model prog w) A (eval b env) (JoinPost g L m news r s) E s₁) E s)
    (k : ∀ t h' tk, Fr g L h' m → News g L h' news → Q (.int r t) { s with heap := h', toks := tk }) : wpAny (model prog w) A (eval (.IfExp test a b pos) env) Q E s := by
  refine IfExp_ (wpAny_mono h (fun c s₁ h₁ => ?_) fun _ _ e => e)
  have fin : ∀ v s', JoinPost g L m news r s v s' → Q v s' := fun v s' p => by
    obtain ⟨t, h', tk, rfl, rfl, F', N'⟩ := p
    exact k t h' tk F' N'
  cases c with
  | true => simp only [if_true] at h₁ ⊢; exact wpAny_mono h₁ fin fun _ _ e => e
  | false => simp only [Bool.false_eq_true, if_false] at h₁ ⊢; exact wpAny_mono h₁ fin fun _ _ e => e
theorem ne_intsT {a b : Addr} {vs us : List Value} {ns ms : List Int} {Q : Value → Shared → Prop} (hl : s.heap.IsList a vs.toArray) (hi : IntsAre vs ns) (hl' : s.heap.IsList b us.toArray) (hi' : IntsAre us ms) (hu : A.units + 64 < cLine) (he : ns = ms)
    (h : Q (.bool false) s) : wpAny (model prog w) A (compareOp .NotEq (.ref a) (.ref b)) Q E s := ne_intsK hl hi hl' hi' hu (by rw [he]; simpa using h)
end
theorem Calls.useMade {w : World} {n : Nat} {f : Value} {args : List Value} {ns : List Int} {A : Around} {s : Shared} {Q E : Value → Shared → Prop} {g : Heap} {L : Addr} {m : Str → Option Value} {news : List (Addr × Obj)}
    (C : Calls w n f args s.heap (MadeInts s.heap ns)) (F : Fr g L s.heap m) (N : News g L s.heap news)
    (k : ∀ a (ys : List Value) c h' tk', IntsAre ys ns → Fr g L h' m → News g L h' ((a, listOf ys.toArray c) :: news) → (∀ p ∈ news, @Ne Nat p.1 a) → (∀ b o, s.heap.get? b = some o → h'.get? b = some o) → Q (.ref a) { s with heap := h', toks := tk' })
    (hh : autoParam (A.handled = none) auR) (hd : autoParam (A.depth ≤ n) auL) (hu : autoParam (A.units ≤ 8 * n) auL) :
    wpAny (model Challenge.rw_np0089_01.row.prog w) A (call f args) Q E s := by
  refine C A s Q E hh hd hu rfl fun v h' tk' st p => ?_
  obtain ⟨a, ys, c, rfl, ha, hn, l, rfl, I⟩ := p
  refine k a l c h' tk' I (F.keeps st) (fun p hp => ?_) (fun p hp => ?_) ?_
  · rcases List.mem_cons.mp hp with rfl | hp
    · refine ⟨ha, fun q => ?_, ?_⟩
      · obtain ⟨o, _, _, e, _⟩ := F.ns
        rw [show a = L from q, e] at hn; cases hn
      · cases q : g.get? a with
        | none => rfl
        | some o => rw [F.keep _ _ q] at hn; cases hn
    · exact ⟨st _ _ (N p hp).1, (N p hp).2⟩
  · intro q
    have := (N p hp).1
    rw [show p.1 = a from q, hn] at this; cases this
  · exact st
theorem shift_all {w : World} {h : Heap} (S : Std w h) {l : Addr} {v v' : Value} {n c : Int} (hl : h.IsList l [v, v'].toArray) (V : WholeAt v n) (V' : WholeAt v' c) (hc1 : -70 ≤ c) (hc2 : c ≤ 70) (hn : Builtin.Int.intBits n ≤ 1000) : Calls w 380 (.ref 410) [.none, .ref l] h (fun v _ => ∃ t, v = .int (if 0 ≤ c then n * 2 ^ c.toNat else n.fdiv (2 ^ (0 - c).toNat)) t) := by
  by_cases hc : 0 ≤ c
  · simp only [if_pos hc]
    by_cases h0 : n = 0
    · subst h0
      simp only [Int.zero_mul]
      exact shift_zero S hl V V' hc
    · have h2 := (bits_two c.toNat).1
      have h3 := intBits_mul_le (Nat.le_refl (Builtin.Int.intBits n)) h2
      exact shift_pos S hl V V' hc (by lia) h0 (by lia) (by lia)
  · simp only [if_neg hc]
    exact shift_neg S hl V V' (by lia) (by lia)
theorem bit_count_all {w : World} {h : Heap} (S : Std w h) {l : Addr} {v : Value} {n : Int} (hl : h.IsList l [v].toArray) (V : WholeAt v n) : Calls w 380 (.ref 417) [.none, .ref l] h (fun v _ => ∃ t, v = .int (popN (if 0 ≤ n then n else -1 - n).toNat) t) := by
  by_cases h0 : 0 ≤ n
  · simp only [if_pos h0]; exact bit_count_pos S hl V h0
  · simp only [if_neg h0]; exact bit_count_neg S hl V h0
end Mine.Internal
namespace Mine.Internal
section
variable {w : World} {A : Around} {E : Value → Shared → Prop} {s : Shared} {Q : Value → Shared → Prop}
theorem is_flag {b b' : Bool} (S : Std w s.heap) (hb : b = b') (h : Q (.bool b') s) : wpAny (model Challenge.rw_np0089_01.row.prog w) A (compareOp .Is (.ref (if b = true then 67 else 64)) (.ref 67)) Q E s := by
  subst hb
  cases b with
  | true => exact wpAny_is_ref_self h
  | false => exact kto_is (S.X 64 _ rfl) (S.X 67 _ rfl) (by decide) (by decide) h
theorem is_flag64 {b b' : Bool} (S : Std w s.heap) (hb : (!b) = b') (h : Q (.bool b') s) : wpAny (model Challenge.rw_np0089_01.row.prog w) A (compareOp .Is (.ref (if b = true then 67 else 64)) (.ref 64)) Q E s := by
  subst hb
  cases b with
  | true => exact kto_is (S.X 67 _ rfl) (S.X 64 _ rfl) (by decide) (by decide) h
  | false => exact wpAny_is_ref_self h
end
theorem beq_dec {n : Int} : (n == 0) = decide (n = 0) := rfl
theorem bne_dec {n m : Int} : (n != m) = !decide (n = m) := rfl
theorem ne_boolT {prog : Program} {w : World} {A : Around} {E : Value → Shared → Prop} {s : Shared} {Q : Value → Shared → Prop} {b : Bool} (h : Q (.bool false) s) : wpAny (model prog w) A (compareOp .NotEq (.bool b) (.bool b)) Q E s := by
  refine ne_bool ?_
  simpa using h
inductive CompI (x : Str) (G : Value → Value → Prop) : Prop
  | mk
theorem lcI_eval {prog : Program} {w : World} {A : Around} {E : Value → Shared → Prop} {s : Shared} {env : Env} {elt iter : Expr} {x : Str} {px : Pos} {scope : Scope} {cl : List (Str × Addr)} {pos : Pos} {Q : Value → Shared → Prop} {G : Value → Value → Prop} (_ : CompI x G)
    (hclos : closureFor scope env = pure cl) (hcell : ∀ y ∈ scope.names, y.2 ≠ .cell) (hkind : scope.kind = .function)
    (hnames : ∀ y ∈ scope.names, y.2 = .local → scope.names.lookup y.1 = some .local) (hx : scope.names.lookup x = some .local)
    (h : wpAny (model prog w) A (eval iter env) (fun xv s₁ => wpAny (model prog w) A (pyIter xv) (fun it s₂ => LcAt prog w A env scope cl x elt G Q it s₂) E s₁) E s)
    (hs : autoParam (∀ x, foldedSetIterable iter env x = pure x) auJ) :
    wpAny (model prog w) A (eval (.ListComp elt [⟨.Name x px, iter, [], 0⟩] scope pos) env) Q E s := lc_eval (G := G) trivial hclos hcell hkind hnames hx h hs
theorem ints_at {vs : List Value} {ns : List Int} (I : IntsAre vs ns) {i : Nat} {v : Value} (h : vs[i]? = some v) : ∃ n t, v = .int n t ∧ ns[i]? = some n := by
  have hi : i < ns.length := by rw [← ints_len I]; exact (List.getElem?_eq_some_iff.mp h).1
  obtain ⟨t, e⟩ := ints_item I h (List.getElem?_eq_getElem hi)
  exact ⟨_, t, e, List.getElem?_eq_getElem hi⟩
noncomputable def GDiff (d : Int) (v y : Value) : Prop := ∀ b t, v = .int b t → ∃ t', y = .int (if (b != d) = true then 1 else 0) t'
theorem GDiff.of {d b : Int} {t t' : Tok} : GDiff d (.int b t) (.int (if (b != d) = true then 1 else 0) t') := fun _ _ e => by cases e; exact ⟨_, rfl⟩
theorem made_diff {vs ys : List Value} {ns : List Int} {d : Int} (I : IntsAre vs ns) (hp : Paired (GDiff d) vs ys) : IntsAre ys (ns.map fun b => if (b != d) = true then 1 else 0) :=
  paired_ints (ints_len I) (fun b => if (b != d) = true then 1 else 0) hp fun i v n y a b g => by
    obtain ⟨t, e⟩ := ints_item I a b
    exact g _ _ e
end Mine.Internal
namespace Mine.Internal
section
variable {prog : Program} {w : World} {A : Around} {E : Value → Shared → Prop} {s : Shared} {env : Env} {h₀ : Heap} {x : Str} {body : List Stmt} {Q : Flow → Shared → Prop}
theorem iter_range {r : Addr} {a b : Int} {t u v : Tok} {n : Nat} {m₀ : Str → Option Value} {news : List (Addr × Obj)} (J : Nat → (Str → Option Value) → Prop)
    (hh : A.handled = none) (hr : IsRange s.heap r a b 1 t u v) (hsm : Builtin.Range.small a b 1 = true) (hn : Builtin.Range.rangeSize a b 1 = ((n : Nat) : Int)) (F : Fr h₀ env.locals s.heap m₀) (N : News h₀ env.locals s.heap news) (hj : J 0 m₀)
    (turn : ∀ i v m₁ h tk own, i < n → (∃ t, v = .int (a + (i : Int)) t) → J i m₁ → Fr h₀ env.locals h (fun y => if y = x then some v else m₁ y) → News h₀ env.locals h (own ++ news) →
      wpAny (model prog w) A (execs body env) (InvPost h₀ env.locals (J (i + 1)) (own ++ news) { s with heap := h, toks := tk } Q) E { s with heap := h, toks := tk })
    (done : ∀ m₁ h tk, J n m₁ → Fr h₀ env.locals h m₁ → News h₀ env.locals h news → Q .next { s with heap := h, toks := tk }) :
    wpAny (model prog w) A (pyIter (.ref r)) (fun it s₂ => LoopAtV prog w A h₀ env x body Q E it s₂) E s := by
  refine wpAny_pyIter_range hr hsm ?_
  have W := PyProof.Rows.LCg.range_walks (prog := prog) (w := w) (A := A) (I := s.heap.objs.size) hh a n
  let J' : Nat → (Str → Option Value) → List (Addr × Obj) → Prop := fun i m₁ news₁ => news₁ = news ∧ J i m₁
  refine ⟨_, _, _, n, _, _, m₀, news, J', rfl, W, ?_, ?_, ?_, by show IsRangeIter _ _ _ _ _; rw [hn]; simpa using Heap.get?_push_size _ rfl, F.push _, (fun p hp => ⟨Heap.get?_push_of_some _ (N p hp).1, (N p hp).2⟩), ⟨rfl, hj⟩, ?_, ?_⟩
  · intro hm
    exact absurd F.ns.lt ((List.mem_singleton.mp hm) ▸ Nat.lt_irrefl _)
  · intro b hb
    rw [List.mem_singleton.mp hb]
    exact next_is_new F
  · intro p hp hI
    exact absurd (Heap.lt_size (N p hp).1) ((List.mem_singleton.mp hI) ▸ Nat.lt_irrefl _)
  · rintro i v m₁ news₁ s₁ own ⟨hh', tk', rfl⟩ hin hP ⟨rfl, hJ⟩ hoff _ _ _ _ F₁ N₁
    refine wpAny_mono (turn i v m₁ hh' tk' own hin hP hJ F₁ N₁) (fun f s₂ p => ?_) fun _ _ e => e
    have fin : InvEnd h₀ env.locals (J (i + 1)) (own ++ news₁) { s with heap := hh', toks := tk' } s₂ → LoopStepU h₀ env.locals [s.heap.objs.size] own (J' (i + 1)) { s with heap := hh', toks := tk' } .next s₂ := by
      rintro ⟨h', tk, m', news', e, F', N', hn, hm⟩
      exact ⟨rfl, h', tk, m', news₁, e, F', fun p hp => N' p (hn p hp), hoff, rfl, hm⟩
    cases f with
    | ret v => exact .ret p
    | brk => exact .brk p
    | next => exact .next (fin p)
    | cont => exact .cont (fin p)
  · rintro h' tk m' news' F' N' _ ⟨rfl, hJ⟩
    exact done m' h' tk hJ F' N'
inductive FoldN (y : Str) (g : Nat → Int) : Prop
  | mk
theorem iter_rangeN {r : Addr} {a b : Int} {t u v : Tok} {n : Nat} {m₀ : Str → Option Value} {news : List (Addr × Obj)} {y : Str} {t₀ : Tok} {g : Nat → Int} (_ : FoldN y g)
    (hh : A.handled = none) (hr : IsRange s.heap r a b 1 t u v) (hsm : Builtin.Range.small a b 1 = true) (hn : Builtin.Range.rangeSize a b 1 = ((n : Nat) : Int)) (F : Fr h₀ env.locals s.heap m₀) (N : News h₀ env.locals s.heap news) (hy : m₀ y = some (.int (g 0) t₀)) (hyx : y ≠ x)
    (turn : ∀ i v ta h tk own, i < n → (∃ t, v = .int (a + (i : Int)) t) → Fr h₀ env.locals h (fun z => if z = x then some v else if z = y then some (.int (g i) ta) else m₀ z) → News h₀ env.locals h (own ++ news) →
      wpAny (model prog w) A (execs body env) (TPost h₀ env.locals (own ++ news) x y m₀ (g (i + 1)) { s with heap := h, toks := tk } Q) E { s with heap := h, toks := tk })
    (done : ∀ (u : Str → Option Value) t h tk, Fr h₀ env.locals h (fun z => if z = x then u z else if z = y then some (.int (g n) t) else m₀ z) → News h₀ env.locals h news → Q .next { s with heap := h, toks := tk }) :
    wpAny (model prog w) A (pyIter (.ref r)) (fun it s₂ => LoopAtV prog w A h₀ env x body Q E it s₂) E s := by
  refine iter_range (fun i m => (∃ t, m y = some (.int (g i) t)) ∧ ∀ z, z ≠ x → z ≠ y → m z = m₀ z) hh hr hsm hn F N ⟨⟨t₀, hy⟩, fun _ _ _ => rfl⟩ ?_ ?_
  · rintro i v m₁ h tk own hin hv ⟨⟨ta, ha⟩, hm⟩ F₁ N₁
    have e : (fun z => if z = x then some v else m₁ z) = fun z => if z = x then some v else if z = y then some (Value.int (g i) ta) else m₀ z := by
      funext z
      by_cases h1 : z = x
      · simp [h1]
      · simp only [if_neg h1]
        by_cases h2 : z = y
        · subst h2; simp [ha]
        · simp only [if_neg h2]; exact hm z h1 h2
    rw [e] at F₁
    refine wpAny_mono (turn i v ta h tk own hin hv F₁ N₁) (fun f s' p => ?_) fun _ _ e => e
    rcases p with ⟨rfl, h', tk', m, t, rfl, F', N', e1, e2⟩ | ⟨v, rfl, q⟩
    · exact InvEnd.intro F' N' (fun _ q => q) ⟨⟨t, e1⟩, e2⟩
    · exact q
  · rintro m₁ h tk ⟨⟨t, ha⟩, hm⟩ F₁ N₁
    refine done m₁ t h tk ?_ N₁
    have e : (fun z => if z = x then m₁ z else if z = y then some (Value.int (g n) t) else m₀ z) = m₁ := by
      funext z
      by_cases h1 : z = x
      · simp [h1]
      · simp only [if_neg h1]
        by_cases h2 : z = y
        · subst h2; simp [ha]
        · simp only [if_neg h2]; exact (hm z h1 h2).symm
    rw [e]; exact F₁
inductive RangeNone : Prop
  | mk
theorem iter_range0 {r : Addr} {a b : Int} {t u v : Tok} {m₀ : Str → Option Value} {news : List (Addr × Obj)} (_ : RangeNone)
    (hh : A.handled = none) (hr : IsRange s.heap r a b 1 t u v) (hsm : Builtin.Range.small a b 1 = true) (hn : Builtin.Range.rangeSize a b 1 = ((0 : Nat) : Int)) (F : Fr h₀ env.locals s.heap m₀) (N : News h₀ env.locals s.heap news)
    (done : ∀ h tk, Fr h₀ env.locals h m₀ → News h₀ env.locals h news → Q .next { s with heap := h, toks := tk }) :
    wpAny (model prog w) A (pyIter (.ref r)) (fun it s₂ => LoopAtV prog w A h₀ env x body Q E it s₂) E s :=
  iter_range (fun _ m => m = m₀) hh hr hsm hn F N rfl (fun i _ _ _ _ _ hi => absurd hi (Nat.not_lt_zero _)) (fun m₁ h tk e F₁ N₁ => by subst e; exact done h tk F₁ N₁)
end
noncomputable def powR (n : Int) : Nat → Int
  | 0 => 1
  | i + 1 => powR n i * n
theorem powR_eq (n : Int) : ∀ i, powR n i = n ^ i
  | 0 => by simp [powR]
  | i + 1 => by rw [powR, powR_eq n i, Int.pow_succ]
theorem neNat {news : List (Addr × Obj)} {D : Addr} (h : ∀ p ∈ news, p.1 ≠ D) : ∀ p ∈ news, @Ne Nat p.1 D := h
inductive DeadAt (pos : Pos) : Prop
  | mk
theorem dead_at {M : Model} {A : Around} {E : Value → Shared → Prop} {s : Shared} {c : Const} {k : Nat} {pos : Pos} {env : Env} {Q : Value → Shared → Prop} (_ : DeadAt pos) (h : False) : wpAny M A (eval (.Constant c k pos) env) Q E s := h.elim
end Mine.Internal
namespace Mine.Internal
noncomputable def Sm (ns : List Int) : Prop := ns.length ≤ 4 ∧ ∀ n ∈ ns, Builtin.Int.intBits n ≤ 70
theorem Sm.tail {n : Int} {ns : List Int} (h : Sm (n :: ns)) : Sm ns := ⟨by have := h.1; simp at this; lia, fun m hm => h.2 m (List.mem_cons_of_mem _ hm)⟩
theorem Sm.head {n : Int} {ns : List Int} (h : Sm (n :: ns)) : Builtin.Int.intBits n ≤ 70 := h.2 n (List.mem_cons_self ..)
theorem fold_bits {f : Int → Int → Int} (hf : ∀ a n k, Builtin.Int.intBits a ≤ k → Builtin.Int.intBits n ≤ 70 → Builtin.Int.intBits (f a n) ≤ k + 71) : ∀ (l : List Int) (a : Int) (k : Nat), Builtin.Int.intBits a ≤ k → (∀ n ∈ l, Builtin.Int.intBits n ≤ 70) → Builtin.Int.intBits (l.foldl f a) ≤ k + 71 * l.length
  | [], _, _, h, _ => h
  | n :: l, a, k, h, hn => by
    have := fold_bits hf l (f a n) (k + 71) (hf a n k h (hn n (List.mem_cons_self ..))) fun m hm => hn m (List.mem_cons_of_mem _ hm)
    simp only [List.foldl_cons, List.length_cons]; lia
theorem Sm.fits {f : Int → Int → Int} (hf : ∀ a n k, Builtin.Int.intBits a ≤ k → Builtin.Int.intBits n ≤ 70 → Builtin.Int.intBits (f a n) ≤ k + 71) {a : Int} (ha : Builtin.Int.intBits a ≤ 70) {ns : List Int} (h : Sm ns) {i : Nat} {n : Int} (hn : ns[i]? = some n) :
    Builtin.Int.intBits ((ns.take i).foldl f a) ≤ 354 ∧ Builtin.Int.intBits n ≤ 70 ∧ Builtin.Int.intBits (f ((ns.take i).foldl f a) n) ≤ 425 := by
  have h1 := fold_bits hf (ns.take i) a 70 ha fun m hm => h.2 m (List.mem_of_mem_take hm)
  have h2 := h.1
  have h3 : (ns.take i).length ≤ 4 := by rw [List.length_take]; lia
  have h4 := h.2 n (List.mem_of_getElem? hn)
  have h5 := hf ((ns.take i).foldl f a) n 354 (by lia) h4
  exact ⟨by lia, h4, by lia⟩
theorem g_add (a n : Int) (k : Nat) (h1 : Builtin.Int.intBits a ≤ k) (h2 : Builtin.Int.intBits n ≤ 70) : Builtin.Int.intBits (a + n) ≤ k + 71 := by have := intBits_add_le h1 h2; lia
theorem g_sub (a n : Int) (k : Nat) (h1 : Builtin.Int.intBits a ≤ k) (h2 : Builtin.Int.intBits n ≤ 70) : Builtin.Int.intBits (a - n) ≤ k + 71 := by have := intBits_sub_le h1 h2; lia
theorem g_mul (a n : Int) (k : Nat) (h1 : Builtin.Int.intBits a ≤ k) (h2 : Builtin.Int.intBits n ≤ 70) : Builtin.Int.intBits (a * n) ≤ k + 71 := Nat.le_trans (intBits_mul_le h1 h2) (by lia)
theorem Sm.moks {f : Int → Int → Int} (hf : ∀ a n k, Builtin.Int.intBits a ≤ k → Builtin.Int.intBits n ≤ 70 → Builtin.Int.intBits (f a n) ≤ k + 71) {a : Int} (ha : Builtin.Int.intBits a ≤ 70) {ns : List Int} (h : Sm ns) : MOks f a ns := fun i n hn => by
  have := h.fits hf ha hn; exact mul_ok (by lia)
theorem Sm.fit {f : Int → Int → Int} (hf : ∀ a n k, Builtin.Int.intBits a ≤ k → Builtin.Int.intBits n ≤ 70 → Builtin.Int.intBits (f a n) ≤ k + 71) {a : Int} (ha : Builtin.Int.intBits a ≤ 70) {ns : List Int} (h : Sm ns) : Fits f a ns := fun i n hn => by
  have := h.fits hf ha hn; lia
theorem bits0 : Builtin.Int.intBits 0 ≤ 70 := by decide
theorem bits1 : Builtin.Int.intBits 1 ≤ 70 := by decide
theorem bits_log {n : Int} (h : Builtin.Int.intBits n ≤ 70) : n.natAbs.log2 < 9000 := by
  have h1 := intBits_le_iff.mp h
  by_cases h0 : n.natAbs = 0
  · rw [h0]; decide
  · exact Nat.lt_of_lt_of_le ((Nat.log2_lt h0).mpr h1) (by decide)
noncomputable def minusV : List Int → Int
  | [] => 0
  | [n] => 0 - n
  | n :: m :: r => (m :: r).foldl (fun a n => a - n) n
noncomputable def quotV : List Int → Int
  | [] => 0
  | [n] => cutV 1 n
  | n :: m :: r => (m :: r).foldl (fun a n => cutV a n) n
noncomputable def quotZ : List Int → Prop
  | [] => False
  | [n] => n = 0
  | _ :: m :: r => 0 ∈ m :: r
inductive IsQ (ns : List Int) (v : Value) : Prop
  | num (t : Tok) : v = .int (quotV ns) t → ¬ quotZ ns → IsQ ns v
  | bad (t : Tok) : v = .str (Str.ofString "arith-error") t → quotZ ns → IsQ ns v
section
variable {w : World} {h : Heap} {l : Addr} {vs : List Value} {ns : List Int} {tk : Tok}
theorem plus_all (S : Std w h) (hl : h.IsList l vs.toArray) (V : NumsAt h vs ns) (B : Sm ns) : Calls w 380 (.ref 262) [.none, .ref l] h (fun v _ => ∃ t, v = .int (ns.foldl (fun a n => a + n) 0) t) := plus_calls S hl V (B.fit g_add bits0)
theorem times_all (S : Std w h) (hl : h.IsList l vs.toArray) (V : NumsAt h vs ns) (B : Sm ns) : Calls w 380 (.ref 276) [.none, .ref l] h (fun v _ => ∃ t, v = .int (ns.foldl (fun a n => a * n) 1) t) :=
  times_calls S hl V (B.fit g_mul bits1) fun i n hn => by have := B.fits g_mul bits1 hn; exact Nat.le_trans (Nat.add_le_add this.1 this.2.1) (by decide)
theorem minus_all (S : Std w h) (hl : h.IsList l vs.toArray) (V : NumsAt h vs ns) (B : Sm ns) : Calls w 380 (.ref 269) [.none, .ref l] h (fun v _ => ∃ t, v = .int (minusV ns) t) := by
  have hlen := V.1
  have hb := B.1
  rcases ns with _ | ⟨n, _ | ⟨m, ns⟩⟩
  · obtain rfl : vs = [] := List.eq_nil_of_length_eq_zero hlen
    exact minus0_calls S hl
  · obtain ⟨v, rfl⟩ := List.length_eq_one_iff.mp hlen
    exact minus1_calls S hl (V.2 0 _ _ rfl rfl) (by have := g_sub 0 n 70 bits0 B.head; lia)
  · rcases vs with _ | ⟨v, _ | ⟨v2, vs⟩⟩
    · cases hlen
    · cases hlen
    · simp only [List.length_cons] at hlen hb
      exact minus2_calls S hl (V.2 0 _ _ rfl rfl) ⟨by simp only [List.length_cons]; lia, fun i a b x y => V.2 (i + 1) a b x y⟩ (by simp) (by simp only [List.length_cons]; lia) (B.tail.fit g_sub B.head)
theorem quot_all (S : Std w h) (hl : h.IsList l vs.toArray) (V : NumsAt h vs ns) (B : Sm ns) (h0 : ns ≠ []) (hz : ¬ quotZ ns) : Calls w 380 (.ref 283) [.none, .ref l] h (fun v _ => ∃ t, v = .int (quotV ns) t) := by
  have hlen := V.1
  have hb := B.1
  rcases ns with _ | ⟨n, _ | ⟨m, ns⟩⟩
  · obtain rfl : vs = [] := List.eq_nil_of_length_eq_zero hlen
    exact absurd rfl h0
  · obtain ⟨v, rfl⟩ := List.length_eq_one_iff.mp hlen
    exact quotient1_calls S hl (V.2 0 _ _ rfl rfl) hz (bits_log B.head)
  · rcases vs with _ | ⟨v, _ | ⟨v2, vs⟩⟩
    · cases hlen
    · cases hlen
    · simp only [List.length_cons] at hlen hb
      have hz' : ¬ 0 ∈ m :: ns := hz
      exact quotient2_calls S hl (V.2 0 _ _ rfl rfl) ⟨by simp only [List.length_cons]; lia, fun i a b x y => V.2 (i + 1) a b x y⟩ (by simp) (by simp only [List.length_cons]; lia) fun k hk => ⟨fun q => hz' (q ▸ hk), bits_log (B.tail.2 k hk)⟩
theorem quot_zero (S : Std w h) (hl : h.IsList l vs.toArray) (V : NumsAt h vs ns) (B : Sm ns) (hz : quotZ ns) : Raises w 380 (.ref 283) [.none, .ref l] h (Str.ofString "arith-error") := by
  have hlen := V.1
  have hb := B.1
  rcases ns with _ | ⟨n, _ | ⟨m, ns⟩⟩
  · obtain rfl : vs = [] := List.eq_nil_of_length_eq_zero hlen
    exact hz.elim
  · obtain ⟨v, rfl⟩ := List.length_eq_one_iff.mp hlen
    exact quotient1_zero S hl (by have := V.2 0 _ _ rfl rfl; rwa [show n = 0 from hz] at this)
  · rcases vs with _ | ⟨v, _ | ⟨v2, vs⟩⟩
    · cases hlen
    · cases hlen
    · simp only [List.length_cons] at hlen hb
      exact quotient2_zero S hl (V.2 0 _ _ rfl rfl) ⟨by simp only [List.length_cons]; lia, fun i a b x y => V.2 (i + 1) a b x y⟩ (by simp) (by simp only [List.length_cons]; lia) (fun k hk => bits_log (B.tail.2 k hk)) hz
theorem foldedp_all (S : Std w h) (hl : h.IsList l vs.toArray) (I : IntsAre vs ns) (B : Sm ns) : Calls w 370 (.ref 737) [.str "+" tk, .ref l] h (fun v _ => ∃ t, v = .int (ns.foldl (fun a n => a + n) 0) t) := by
  have hlen := ints_len I
  have hb := B.1
  rcases ns with _ | ⟨n, _ | ⟨m, ns⟩⟩
  · obtain rfl : vs = [] := List.eq_nil_of_length_eq_zero hlen
    exact folded_plus0 S hl
  · obtain ⟨v, rfl⟩ := List.length_eq_one_iff.mp hlen
    exact folded_plus1 S hl I (B.moks g_add bits0)
  · rcases vs with _ | ⟨v, _ | ⟨v2, vs⟩⟩
    · cases hlen
    · cases hlen
    · simp only [List.length_cons] at hlen hb
      have := folded_plus2 (tk := tk) S hl I (by simp) (by simp only [List.length_cons]; lia) (B.tail.moks g_add B.head)
      simpa only [List.foldl_cons, Int.zero_add] using this
theorem foldedm_all (S : Std w h) (hl : h.IsList l vs.toArray) (I : IntsAre vs ns) (B : Sm ns) : Calls w 370 (.ref 737) [.str "-" tk, .ref l] h (fun v _ => ∃ t, v = .int (minusV ns) t) := by
  have hlen := ints_len I
  have hb := B.1
  rcases ns with _ | ⟨n, _ | ⟨m, ns⟩⟩
  · obtain rfl : vs = [] := List.eq_nil_of_length_eq_zero hlen
    exact folded_minus0 S hl
  · obtain ⟨v, rfl⟩ := List.length_eq_one_iff.mp hlen
    exact folded_minus1 S hl I (B.moks g_sub bits0)
  · rcases vs with _ | ⟨v, _ | ⟨v2, vs⟩⟩
    · cases hlen
    · cases hlen
    · simp only [List.length_cons] at hlen hb
      exact folded_minus2 (tk := tk) S hl I (by simp) (by simp only [List.length_cons]; lia) (B.tail.moks g_sub B.head)
theorem foldedt_all (S : Std w h) (hl : h.IsList l vs.toArray) (I : IntsAre vs ns) (B : Sm ns) : Calls w 370 (.ref 737) [.str "*" tk, .ref l] h (fun v _ => ∃ t, v = .int (ns.foldl (fun a n => a * n) 1) t) := by
  have hlen := ints_len I
  have hb := B.1
  rcases ns with _ | ⟨n, _ | ⟨m, ns⟩⟩
  · obtain rfl : vs = [] := List.eq_nil_of_length_eq_zero hlen
    exact folded_times0 S hl
  · obtain ⟨v, rfl⟩ := List.length_eq_one_iff.mp hlen
    exact folded_times1 S hl I (B.moks g_mul bits1)
  · rcases vs with _ | ⟨v, _ | ⟨v2, vs⟩⟩
    · cases hlen
    · cases hlen
    · simp only [List.length_cons] at hlen hb
      have := folded_times2 (tk := tk) S hl I (by simp) (by simp only [List.length_cons]; lia) (B.tail.moks g_mul B.head)
      simpa only [List.foldl_cons, Int.one_mul] using this
theorem Calls.weaken {n : Nat} {f : Value} {args : List Value} {P P' : Value → Heap → Prop} (C : Calls w n f args h P) (hp : ∀ v h', P v h' → P' v h') : Calls w n f args h P' :=
  fun A s Q E a b c d k => C A s Q E a b c d fun v h' tk' st p => k v h' tk' st (hp v h' p)
theorem foldedq_all (S : Std w h) (hl : h.IsList l vs.toArray) (I : IntsAre vs ns) (B : Sm ns) (h0 : ns ≠ []) : Calls w 370 (.ref 737) [.str "/" tk, .ref l] h (fun v _ => IsQ ns v) := by
  have hlen := ints_len I
  have hb := B.1
  rcases ns with _ | ⟨n, _ | ⟨m, ns⟩⟩
  · obtain rfl : vs = [] := List.eq_nil_of_length_eq_zero hlen
    exact absurd rfl h0
  · obtain ⟨v, rfl⟩ := List.length_eq_one_iff.mp hlen
    by_cases hz : n = 0
    · subst hz
      exact (folded_div1z S hl I).weaken fun v _ ⟨t, e⟩ => .bad t e rfl
    · exact (folded_div1 S hl I fun k hk => by rw [List.mem_singleton.mp hk]; exact ⟨hz, bits_log B.head⟩).weaken fun v _ ⟨t, e⟩ => .num t e hz
  · rcases vs with _ | ⟨v, _ | ⟨v2, vs⟩⟩
    · cases hlen
    · cases hlen
    · simp only [List.length_cons] at hlen hb
      by_cases hz : 0 ∈ m :: ns
      · exact (folded_div2z S hl I (by simp) (by simp only [List.length_cons]; lia) (fun k hk => bits_log (B.tail.2 k hk)) hz).weaken fun v _ ⟨t, e⟩ => .bad t e hz
      · exact (folded_div2 S hl I (by simp) (by simp only [List.length_cons]; lia) fun k hk => ⟨fun q => hz (q ▸ hk), bits_log (B.tail.2 k hk)⟩).weaken fun v _ ⟨t, e⟩ => .num t e hz
end
end Mine.Internal
namespace Mine.Internal
noncomputable abbrev binScope (g : Str) : Scope := { kind := .function, names := [(Str.ofString "one", .free), (Str.ofString "other", .free), (g, .globalImplicit)], isGenerator := false, isCoroutine := false, more := [] }
noncomputable abbrev binBody (g : Str) (p1 p2 p3 p4 p5 p6 : Pos) : Expr := .Call (.Name g p1) [.Constant Const.none 0 p2, .List [.Name "one" p3, .Name "other" p4] p5] [] p6
noncomputable abbrev someScope (g : Str) : Scope := { kind := .function, names := [(Str.ofString "some", .free), (g, .globalImplicit)], isGenerator := false, isCoroutine := false, more := [] }
noncomputable abbrev someBody (g : Str) (p1 p2 p3 p4 : Pos) : Expr := .Call (.Name g p1) [.Constant Const.none 0 p2, .Name "some" p3] [] p4
section
variable {w : World} {h : Heap} {f c' ce cn : Addr} {name qual : Str} {pm ctv : Value} {p1 p2 p3 p4 p5 p6 : Pos} {oe on : Obj} {b e : Int} {tb te : Tok}
theorem lam_power_big (S : Std w h) (ho : h.get? f = some (kla_obj name qual noArgs (powBody p1 p2 p3 p4 p5 p6) powScope [(Str.ofString "number", cn), (Str.ofString "exponent", ce)] pm c' ctv)) (hcd : h.CodeRec (.ref c') qual)
    (h1 : h.get? ce = some oe) (h2 : oe.data = .cell (some (.int e te))) (h3 : h.get? cn = some on) (h4 : on.data = .cell (some (.int b tb))) (he : 0 ≤ e) (hb : ¬ (if b < 0 then -b else b) < 2) (hbits : Builtin.Int.intBits (b ^ e.toNat) ≤ 65536) (hbits2 : Builtin.Int.intBits b ≤ 65536) : Calls w 378 (.ref f) [] h (fun v _ => ∃ t, v = .int (b ^ e.toNat) t) := by
 k_with "e_q" =>
  walk_at "m_lam"
  k_steps
 k_extra "e_Q"
theorem lam_power_all (S : Std w h) (ho : h.get? f = some (kla_obj name qual noArgs (powBody p1 p2 p3 p4 p5 p6) powScope [(Str.ofString "number", cn), (Str.ofString "exponent", ce)] pm c' ctv)) (hcd : h.CodeRec (.ref c') qual)
    (h1 : h.get? ce = some oe) (h2 : oe.data = .cell (some (.int e te))) (h3 : h.get? cn = some on) (h4 : on.data = .cell (some (.int b tb))) (he : 0 ≤ e) (he9 : e ≤ 9) (hb : Builtin.Int.intBits b ≤ 70) : Calls w 378 (.ref f) [] h (fun v _ => ∃ t, v = .int (powR b e.toNat) t) := by
  rw [powR_eq]
  by_cases h2b : (if b < 0 then -b else b) < 2
  · exact lam_power_small S ho hcd h1 h2 h3 h4 he h2b
  · refine lam_power_big S ho hcd h1 h2 h3 h4 he h2b ?_ (by lia)
    have h5 := intBits_pow_le hb e.toNat
    have h6 : 70 * e.toNat ≤ 70 * 9 := Nat.mul_le_mul_left 70 (by lia)
    lia
end
section
variable {w : World} {h : Heap} {f c' ce cn : Addr} {name qual : Str} {pm ctv : Value} {p1 p2 p3 p4 p5 p6 : Pos} {oe on : Obj} {v v' : Value} {n m : Int}
theorem lam_rem (S : Std w h) (ho : h.get? f = some (kla_obj name qual noArgs (binBody (Str.ofString "remainder") p1 p2 p3 p4 p5 p6) (binScope (Str.ofString "remainder")) [(Str.ofString "other", cn), (Str.ofString "one", ce)] pm c' ctv)) (hcd : h.CodeRec (.ref c') qual)
    (h1 : h.get? ce = some oe) (h2 : oe.data = .cell (some v)) (h3 : h.get? cn = some on) (h4 : on.data = .cell (some v')) (V : NumAt h v n) (V' : NumAt h v' m) (hm : m ≠ 0) (hb : m.natAbs.log2 < 9000) (hmo : IntMulOk m (cutV n m)) : Calls w 378 (.ref f) [] h (fun v _ => ∃ t, v = .int (n - m * cutV n m) t) := by
 k_with "e_q" =>
  walk_at "m_lam"
  k_steps
 k_extra "e_Q"
theorem lam_mod (S : Std w h) (ho : h.get? f = some (kla_obj name qual noArgs (binBody (Str.ofString "modulo") p1 p2 p3 p4 p5 p6) (binScope (Str.ofString "modulo")) [(Str.ofString "other", cn), (Str.ofString "one", ce)] pm c' ctv)) (hcd : h.CodeRec (.ref c') qual)
    (h1 : h.get? ce = some oe) (h2 : oe.data = .cell (some v)) (h3 : h.get? cn = some on) (h4 : on.data = .cell (some v')) (V : NumAt h v n) (V' : NumAt h v' m) (hm : m ≠ 0) (hb : m.natAbs.log2 < 9000) (hmo : IntMulOk m (Int.fdiv n m)) : Calls w 378 (.ref f) [] h (fun v _ => ∃ t, v = .int (n - m * Int.fdiv n m) t) := by
 k_with "e_q" =>
  walk_at "m_lam"
  k_steps
 k_extra "e_Q"
theorem lam_rem0 (S : Std w h) (ho : h.get? f = some (kla_obj name qual noArgs (binBody (Str.ofString "remainder") p1 p2 p3 p4 p5 p6) (binScope (Str.ofString "remainder")) [(Str.ofString "other", cn), (Str.ofString "one", ce)] pm c' ctv)) (hcd : h.CodeRec (.ref c') qual)
    (h1 : h.get? ce = some oe) (h2 : oe.data = .cell (some v)) (h3 : h.get? cn = some on) (h4 : on.data = .cell (some v')) (V : NumAt h v n) (V' : NumAt h v' 0) : Raises w 378 (.ref f) [] h (Str.ofString "arith-error") := by
 k_with "e_q" =>
  walk_at "m_rlam"
  k_steps
 k_extra "e_Q"
theorem lam_mod0 (S : Std w h) (ho : h.get? f = some (kla_obj name qual noArgs (binBody (Str.ofString "modulo") p1 p2 p3 p4 p5 p6) (binScope (Str.ofString "modulo")) [(Str.ofString "other", cn), (Str.ofString "one", ce)] pm c' ctv)) (hcd : h.CodeRec (.ref c') qual)
    (h1 : h.get? ce = some oe) (h2 : oe.data = .cell (some v)) (h3 : h.get? cn = some on) (h4 : on.data = .cell (some v')) (V : NumAt h v n) (V' : NumAt h v' 0) : Raises w 378 (.ref f) [] h (Str.ofString "arith-error") := by
 k_with "e_q" =>
  walk_at "m_rlam"
  k_steps
 k_extra "e_Q"
end
section
variable {w : World} {h : Heap} {f c' ce l : Addr} {name qual : Str} {pm ctv : Value} {p1 p2 p3 p4 : Pos} {oe : Obj} {vs : List Value} {ns : List Int}
theorem lam_plus (S : Std w h) (ho : h.get? f = some (kla_obj name qual noArgs (someBody (Str.ofString "plus") p1 p2 p3 p4) (someScope (Str.ofString "plus")) [(Str.ofString "some", ce)] pm c' ctv)) (hcd : h.CodeRec (.ref c') qual)
    (h1 : h.get? ce = some oe) (h2 : oe.data = .cell (some (.ref l))) (hl : h.IsList l vs.toArray) (V : NumsAt h vs ns) (B : Sm ns) : Calls w 378 (.ref f) [] h (fun v _ => ∃ t, v = .int (ns.foldl (fun a n => a + n) 0) t) := by
 k_with "e_q" =>
  walk_at "m_lam"
  k_steps
 k_extra "e_Q"
theorem lam_minus (S : Std w h) (ho : h.get? f = some (kla_obj name qual noArgs (someBody (Str.ofString "minus") p1 p2 p3 p4) (someScope (Str.ofString "minus")) [(Str.ofString "some", ce)] pm c' ctv)) (hcd : h.CodeRec (.ref c') qual)
    (h1 : h.get? ce = some oe) (h2 : oe.data = .cell (some (.ref l))) (hl : h.IsList l vs.toArray) (V : NumsAt h vs ns) (B : Sm ns) : Calls w 378 (.ref f) [] h (fun v _ => ∃ t, v = .int (minusV ns) t) := by
 k_with "e_q" =>
  walk_at "m_lam"
  k_steps
 k_extra "e_Q"
theorem lam_times (S : Std w h) (ho : h.get? f = some (kla_obj name qual noArgs (someBody (Str.ofString "times") p1 p2 p3 p4) (someScope (Str.ofString "times")) [(Str.ofString "some", ce)] pm c' ctv)) (hcd : h.CodeRec (.ref c') qual)
    (h1 : h.get? ce = some oe) (h2 : oe.data = .cell (some (.ref l))) (hl : h.IsList l vs.toArray) (V : NumsAt h vs ns) (B : Sm ns) : Calls w 378 (.ref f) [] h (fun v _ => ∃ t, v = .int (ns.foldl (fun a n => a * n) 1) t) := by
 k_with "e_q" =>
  walk_at "m_lam"
  k_steps
 k_extra "e_Q"
theorem lam_quot (S : Std w h) (ho : h.get? f = some (kla_obj name qual noArgs (someBody (Str.ofString "quotient") p1 p2 p3 p4) (someScope (Str.ofString "quotient")) [(Str.ofString "some", ce)] pm c' ctv)) (hcd : h.CodeRec (.ref c') qual)
    (h1 : h.get? ce = some oe) (h2 : oe.data = .cell (some (.ref l))) (hl : h.IsList l vs.toArray) (V : NumsAt h vs ns) (B : Sm ns) (hn : ns ≠ []) (hz : ¬ quotZ ns) : Calls w 378 (.ref f) [] h (fun v _ => ∃ t, v = .int (quotV ns) t) := by
 k_with "e_q" =>
  walk_at "m_lam"
  k_steps
 k_extra "e_Q"
theorem lam_quot0 (S : Std w h) (ho : h.get? f = some (kla_obj name qual noArgs (someBody (Str.ofString "quotient") p1 p2 p3 p4) (someScope (Str.ofString "quotient")) [(Str.ofString "some", ce)] pm c' ctv)) (hcd : h.CodeRec (.ref c') qual)
    (h1 : h.get? ce = some oe) (h2 : oe.data = .cell (some (.ref l))) (hl : h.IsList l vs.toArray) (V : NumsAt h vs ns) (B : Sm ns) (hz : quotZ ns) : Raises w 378 (.ref f) [] h (Str.ofString "arith-error") := by
 k_with "e_q" =>
  walk_at "m_rlam"
  k_steps
 k_extra "e_Q"
end
end Mine.Internal
namespace Mine.Internal
noncomputable def Made1 (n : Nat) (P : Nat → Value → Prop) (G : Value → Value → Prop) (ys : Array Value) : Prop := ys.size = n ∧ ∀ (j : Nat) (y : Value), ys[j]? = some y → ∃ v, P j v ∧ G v y
section
variable {M : Model} {A : Around} {E : Value → Shared → Prop} {s : Shared}
theorem newEnv_cells {scope : Scope} {globals : Addr} {cl : List (Str × Addr)} {qual : Str} {outer : Env} {Q : Env → Shared → Prop}
    (hQ : Q (newEnv scope s.heap.objs.size globals (cellsFrom (s.heap.objs.size + 1) scope.names cl) qual none .none (some outer) builtinsNs) { s with heap := pushCells (s.heap.push { cls := .type "dict", data := .dict #[] }) scope.names }) :
    wpAny M A (newFunctionEnv scope globals cl [] qual none .none (some outer)) Q E s := by
  simp only [newFunctionEnv, Option.isSome_some, if_true]
  refine wpAny_bind (wpAny_alloc ?_)
  refine wpAny_bind (wpAny_layCells _ (fun name kind cells => by cases hkc : kind == NameKind.cell <;> simp [hkc]) _ _ _ _ ?_)
  rw [show ({ s with heap := s.heap.push { cls := .type "dict", data := .dict #[] } } : Shared).heap.objs.size = s.heap.objs.size + 1 from Heap.size_push ..]
  exact wpAny_pure hQ
end
section
variable {prog : Program} {w : World} {A : Around} {E : Value → Shared → Prop} {s : Shared} {env : Env} {h₀ : Heap} {L : Addr} {m : Str → Option Value} {news : List (Addr × Obj)}
theorem post_assign {y : Str} {py : Pos} {D C : Addr} {oD : Obj} {h : Heap} {tk : Nat} {m' : Str → Option Value} {Q : Flow → Shared → Prop} (F : Fr h₀ env.locals h m) (N : News h₀ env.locals h ((D, oD) :: news)) (hn : h.Ns C m') (hC₀ : h₀.get? C = none) (hCL : C ≠ env.locals) (hCn : ∀ p ∈ (D, oD) :: news, p.1 ≠ C)
    (hy : env.kindOf y = some .local) (hp : (env.scope.kind == .class || (env.scope.kind == .module && env.locals != env.globals)) = false)
    (k : ∀ h' tk', Fr h₀ env.locals h' (fun z => if z = y then some (.ref D) else m z) → News h₀ env.locals h' ((D, oD) :: news) → (∀ b o, b ≠ env.locals → b ≠ C → h.get? b = some o → h'.get? b = some o) → Q .next { s with heap := h', toks := tk' }) :
    compPost (model prog w) A E (some (assign (.Name y py) env)) (fun _ s' => Q .next s') (.ref D) C (.ok .next) { s with heap := h, toks := tk } := by
  show wpAny (model prog w) A (assign (.Name y py) env (.ref D)) _ _ _
  refine wpAny_assign_Name (wpAny_storeName_local hy F.ns (fun h₂ hn₂ hs₂ => ?_) hp)
  have hL₀ : h₀.get? env.locals = none := Heap.get?_none_of_le F.above
  have F₂ : Fr h₀ env.locals h₂ (fun z => if z = y then some (.ref D) else m z) := ⟨hn₂, fun b o e => hs₂.extBut b o (fun q => by rw [q, hL₀] at e; cases e) (F.keep b o e), F.above⟩
  refine ⟨m', hn.sameBut hs₂ hCL, fun h3 hs3 => k h3 _ (F₂.change hs3 hCL hC₀) (fun p hp => ⟨hs3.extBut _ _ (hCn p hp) (hs₂.extBut _ _ (N p hp).2.1 (N p hp).1), (N p hp).2⟩) fun b o b1 b2 e => hs3.extBut b o b2 (hs₂.extBut b o b1 e)⟩
noncomputable def EltOkC (prog : Program) (w : World) (A : Around) (h₀ : Heap) (news : List (Addr × Obj)) (env : Env) (scope : Scope) (cl : List (Str × Addr)) (x : Str) (elt : Expr) (P : Nat → Value → Prop) (G : Value → Value → Prop) (s : Shared) : Prop :=
  ∀ (C cx : Addr) (ov : Obj) (i : Nat) (v : Value) (h : Heap) (g : Array GenState) (d : Drawn) (tk : Nat) (os : OsState) (m₃ : Str → Option Value), P i v → Fr h₀ C h m₃ → News h₀ C h ((cx, ov) :: news) → ov.data = .cell (some v) → (∀ p ∈ news, @Ne Nat p.1 cx) → (∀ b o, s.heap.get? b = some o → h.get? b = some o) →
    wpAny (model prog w) A (eval elt (compEnvC scope ((x, cx) :: cl) C env)) (EltPost G v ⟨h, g, d, tk, os⟩) (fun _ _ => False) ⟨h, g, d, tk, os⟩
end
namespace block_cell_e
noncomputable def zzQ (prog : Program) (w : World) (A : Around) (E : Value → Shared → Prop) (s : Shared) (env : Env) (h₀ : Heap) (L : Addr) (m : Str → Option Value) (news : List (Addr × Obj)) (h₂ : Heap) (tk₂ : Nat) (elt : Expr) (iter : Expr) (x : Str) (px : Pos) (scope : Scope) (cl : List (Str × Addr)) (pos : Pos) (I : Addr) (fp : List Addr) (n : Nat) (P : Nat → Value → Prop) (St : Nat → Heap → Prop) (G : Value → Value → Prop) (RR : Value → Addr → Result → Shared → Prop) : Prop := ∀ W : Walks prog w A I fp [I] n P St, ∀ hs : ∀ b o, s.heap.get? b = some o → h₂.get? b = some o, ∀ hI : s.heap.get? I = none, ∀ hs1 : @LE.le Nat _ s.heap.objs.size h₂.objs.size, ∀ hn : n ≤ 1000, ∀ hst : St 0 h₂, ∀ hfp : ∀ b ∈ fp, b < h₂.objs.size, ∀ F : Fr h₀ L s.heap m, ∀ N : News h₀ L s.heap news, ∀ hcells : ∀ k, cellsFrom k scope.names cl = (x, k) :: cl, ∀ hpush : ∀ h : Heap, pushCells h scope.names = h.push { cls := .type "cell", data := .cell none }, ∀ hkind : scope.kind = .function, ∀ hx : (compEnvC scope cl 0 env).kindOf x = some .cell, ∀ K : EltOkC prog w A h₀ news env scope cl x elt (fun i v => i < n ∧ P i v) G s, ∀ hRR : ∀ D C h' tk (ys : Array Value) c m', Fr h₀ L h' m → News h₀ L h' ((D, listOf ys c) :: news) → s.heap.get? D = none → s.heap.get? C = none → C ≠ D → h'.Ns C m' → Made1 n P G ys → (∀ b o, s.heap.get? b = some o → h'.get? b = some o) → RR (.ref D) C (.ok .next) { s with heap := h', toks := tk }, wpAny (model prog w) A (newList []) (fun acc s₃ => wpAny (model prog w) A (newFunctionEnv scope env.globals cl [] env.qual none .none (some env)) (fun cenv s₄ =>
      codeAny (model prog w) A (.compStart (.ListComp elt [⟨.Name x px, iter, [], 0⟩] scope pos) 0 (.ref I) acc { cenv with scope := relabel scope env }) (RR acc cenv.locals) s₄) E s₃) E { s with heap := h₂, toks := tk₂ }
noncomputable abbrev zzT : Type := Program × World × Around × (Value → Shared → Prop) × Shared × Env × Heap × Addr × (Str → Option Value) × (List (Addr × Obj)) × Heap × Nat × Expr × Expr × Str × Pos × Scope × (List (Str × Addr)) × Pos × Addr × (List Addr) × Nat × (Nat → Value → Prop) × (Nat → Heap → Prop) × (Value → Value → Prop) × (Value → Addr → Result → Shared → Prop)
noncomputable def zzS (z : zzT) : Prop := zzQ z.1 z.2.1 z.2.2.1 z.2.2.2.1 z.2.2.2.2.1 z.2.2.2.2.2.1 z.2.2.2.2.2.2.1 z.2.2.2.2.2.2.2.1 z.2.2.2.2.2.2.2.2.1 z.2.2.2.2.2.2.2.2.2.1 z.2.2.2.2.2.2.2.2.2.2.1 z.2.2.2.2.2.2.2.2.2.2.2.1 z.2.2.2.2.2.2.2.2.2.2.2.2.1 z.2.2.2.2.2.2.2.2.2.2.2.2.2.1 z.2.2.2.2.2.2.2.2.2.2.2.2.2.2.1 z.2.2.2.2.2.2.2.2.2.2.2.2.2.2.2.1 z.2.2.2.2.2.2.2.2.2.2.2.2.2.2.2.2.1 z.2.2.2.2.2.2.2.2.2.2.2.2.2.2.2.2.2.1 z.2.2.2.2.2.2.2.2.2.2.2.2.2.2.2.2.2.2.1 z.2.2.2.2.2.2.2.2.2.2.2.2.2.2.2.2.2.2.2.1 z.2.2.2.2.2.2.2.2.2.2.2.2.2.2.2.2.2.2.2.2.1 z.2.2.2.2.2.2.2.2.2.2.2.2.2.2.2.2.2.2.2.2.2.1 z.2.2.2.2.2.2.2.2.2.2.2.2.2.2.2.2.2.2.2.2.2.2.1 z.2.2.2.2.2.2.2.2.2.2.2.2.2.2.2.2.2.2.2.2.2.2.2.1 z.2.2.2.2.2.2.2.2.2.2.2.2.2.2.2.2.2.2.2.2.2.2.2.2.1 z.2.2.2.2.2.2.2.2.2.2.2.2.2.2.2.2.2.2.2.2.2.2.2.2.2
noncomputable def zzc : zzT := @Classical.epsilon zzT ⟨(cN, zw, zA, cN, zs, cN, cN, cN, cN, cN, cN, cN, cN, cN, cN, cN, cN, cN, cN, cN, cN, cN, cN, cN, cN, cN)⟩ fun z => ¬ zzS z
theorem zzcore : zzS zzc := by
  show zzQ _ _ _ _ _ _ _ _ _ _ _ _ _ _ _ _ _ _ _ _ _ _ _ _ _ _
  generalize zzc.1 = prog; generalize zzc.2.1 = w; generalize zzc.2.2.1 = A; generalize zzc.2.2.2.1 = E; generalize zzc.2.2.2.2.1 = s; generalize zzc.2.2.2.2.2.1 = env; generalize zzc.2.2.2.2.2.2.1 = h₀; generalize zzc.2.2.2.2.2.2.2.1 = L; generalize zzc.2.2.2.2.2.2.2.2.1 = m; generalize zzc.2.2.2.2.2.2.2.2.2.1 = news; generalize zzc.2.2.2.2.2.2.2.2.2.2.1 = h₂; generalize zzc.2.2.2.2.2.2.2.2.2.2.2.1 = tk₂; generalize zzc.2.2.2.2.2.2.2.2.2.2.2.2.1 = elt; generalize zzc.2.2.2.2.2.2.2.2.2.2.2.2.2.1 = iter; generalize zzc.2.2.2.2.2.2.2.2.2.2.2.2.2.2.1 = x; generalize zzc.2.2.2.2.2.2.2.2.2.2.2.2.2.2.2.1 = px; generalize zzc.2.2.2.2.2.2.2.2.2.2.2.2.2.2.2.2.1 = scope; generalize zzc.2.2.2.2.2.2.2.2.2.2.2.2.2.2.2.2.2.1 = cl; generalize zzc.2.2.2.2.2.2.2.2.2.2.2.2.2.2.2.2.2.2.1 = pos; generalize zzc.2.2.2.2.2.2.2.2.2.2.2.2.2.2.2.2.2.2.2.1 = I; generalize zzc.2.2.2.2.2.2.2.2.2.2.2.2.2.2.2.2.2.2.2.2.1 = fp; generalize zzc.2.2.2.2.2.2.2.2.2.2.2.2.2.2.2.2.2.2.2.2.2.1 = n; generalize zzc.2.2.2.2.2.2.2.2.2.2.2.2.2.2.2.2.2.2.2.2.2.2.1 = P; generalize zzc.2.2.2.2.2.2.2.2.2.2.2.2.2.2.2.2.2.2.2.2.2.2.2.1 = St; generalize zzc.2.2.2.2.2.2.2.2.2.2.2.2.2.2.2.2.2.2.2.2.2.2.2.2.1 = G; generalize zzc.2.2.2.2.2.2.2.2.2.2.2.2.2.2.2.2.2.2.2.2.2.2.2.2.2 = RR
  intro W hs hI hs1 hn hst hfp F N hcells hpush hkind hx K hRR
  refine wpAny_newObj_type (newEnv_cells ?_)
  (try dsimp only)
  rw [hcells, hpush]
  generalize hH2 : h₂.push { cls := .type "list", dict := none, data := .seq ([] : List Value).toArray } = H2
  have hC : @Eq Nat H2.objs.size (h₂.objs.size + 1) := by rw [← hH2, Heap.size_push]
  generalize hH3 : H2.push { cls := .type "dict", data := .dict #[] } = H3
  have hX : @Eq Nat H3.objs.size (h₂.objs.size + 2) := by rw [← hH3, Heap.size_push, hC]
  generalize hH4 : H3.push { cls := .type "cell", data := .cell none } = h₁
  have old : ∀ b o, h₂.get? b = some o → h₁.get? b = some o := fun b o e => by
    rw [← hH4]; refine Heap.get?_push_of_some _ ?_
    rw [← hH3]; refine Heap.get?_push_of_some _ ?_
    rw [← hH2]; exact Heap.get?_push_of_some _ e
  have hacc : h₁.PlainList h₂.objs.size #[] := ⟨_, by
    rw [← hH4]; refine Heap.get?_push_of_some _ ?_
    rw [← hH3]; refine Heap.get?_push_of_some _ ?_
    rw [← hH2]; exact Heap.get?_push_size _ rfl⟩
  have hns₁ : h₁.Ns H2.objs.size fun _ => none := by
    have a := (Heap.Ns.new H2 (.type "dict"))
    rw [hH3] at a
    rw [← hH4]
    exact a.keeps fun b o e => Heap.get?_push_of_some _ e
  have hcx₁ : h₁.IsCell (H2.objs.size + 1) none := ⟨_, by
    rw [← hH4]
    have e : @Eq Nat (H2.objs.size + 1) H3.objs.size := by lia
    rw [show (H2.objs.size + 1 : Addr) = H3.objs.size from e]
    exact Heap.get?_push_size _ rfl, rfl⟩
  have hDC : h₂.objs.size ≠ H2.objs.size := Nat.ne_of_lt (by lia)
  have hXC : (H2.objs.size + 1 : Addr) ≠ H2.objs.size := Nat.ne_of_gt (Nat.lt_succ_self _)
  have hXD : (H2.objs.size + 1 : Addr) ≠ h₂.objs.size := Nat.ne_of_gt (by lia)
  have below : ∀ b, @LT.lt Nat _ b h₂.objs.size → b ≠ H2.objs.size ∧ b ≠ H2.objs.size + 1 ∧ b ≠ h₂.objs.size := fun b hb => ⟨Nat.ne_of_lt (by lia), Nat.ne_of_lt (by lia), Nat.ne_of_lt hb⟩
  have hIlt : @LT.lt Nat _ I h₂.objs.size := hfp I (W.sub I (List.mem_singleton.mpr rfl))
  have old2 : ∀ b o, s.heap.get? b = some o → b ≠ I ∧ b ≠ H2.objs.size ∧ b ≠ H2.objs.size + 1 ∧ b ≠ h₂.objs.size := fun b o e =>
    ⟨fun q => (by rw [q, hI] at e; cases e), below b (Heap.lt_size (hs b o e))⟩
  have hLlt : @LT.lt Nat _ L s.heap.objs.size := F.ns.lt
  have loop : ∀ s₃ : Shared, (∃ tk, s₃ = { s with heap := h₁, toks := tk }) →
      codeAny (model prog w) A (.compLoop (.ListComp elt [⟨.Name x px, iter, [], 0⟩] scope pos) 0 (.ref I) (.ref h₂.objs.size) (compEnvC scope ((x, H2.objs.size + 1) :: cl) H2.objs.size env))
        (RR (.ref h₂.objs.size) H2.objs.size) s₃ := by
    rintro s₃ ⟨tk₀, rfl⟩
    refine codeAny_compLoop_list
      (fun n' s' => ∃ h' tk i ys m' vc, s' = { s with heap := h', toks := tk } ∧ i ≤ n ∧ n' = n + 1 - i ∧ ys.size = i ∧ St i h' ∧ h'.Ns H2.objs.size m' ∧ h'.IsCell (H2.objs.size + 1) vc ∧ h'.PlainList h₂.objs.size ys ∧ (∀ b o, s.heap.get? b = some o → h'.get? b = some o) ∧
        (∀ (j : Nat) (y : Value), ys[j]? = some y → ∃ v, P j v ∧ G v y)) ?_ (n + 1)
      ⟨h₁, _, 0, #[], _, _, rfl, Nat.zero_le _, rfl, rfl, W.frame _ _ _ hst fun b _ o e => old b o e, hns₁, hcx₁, hacc, fun b o e => old b o (hs b o e), fun j y e => by simp at e⟩
    rintro n' s' ⟨h', tk, i, ys, m', vc, rfl, hi, rfl, hyl, hst', hn', hc', hpl, hkp, hG⟩
    by_cases hlt : i < n
    · refine W.item i _ _ _ hlt hst' fun v h₃ tk₃ hPv hst₃ hk₃ => ?_
      have k3 : ∀ b o, b ≠ I → h'.get? b = some o → h₃.get? b = some o := fun b o hb e => hk₃ b o (by simpa using hb) e
      obtain ⟨oc, hoc, hocd⟩ := hc'
      refine wpAny_assign_Name (wpAny_storeName_cell hkind hx (by simp [compEnvC]) ⟨oc, k3 _ _ (fun q => absurd (q ▸ hIlt) (by show ¬ @LT.lt Nat _ (H2.objs.size + 1) h₂.objs.size; lia)) hoc, hocd⟩ fun h₄ hc₄ hs₄ => ?_)
      have k34 : ∀ b o, b ≠ I → b ≠ H2.objs.size + 1 → h'.get? b = some o → h₄.get? b = some o := fun b o h1 h2 e => hs₄.extBut b o h2 (k3 b o h1 e)
      have ks : ∀ b o, s.heap.get? b = some o → h₄.get? b = some o := fun b o e => k34 b o (old2 b o e).1 (old2 b o e).2.2.1 (hkp b o e)
      have hn₄ : h₄.Ns H2.objs.size m' := hn'.at' fun o e => k34 _ o (fun q => absurd (q ▸ hIlt) (by lia)) (Ne.symm hXC) e
      have F₄ : Fr h₀ H2.objs.size h₄ m' := ⟨hn₄, fun b o e => ks b o (F.keep b o e), Nat.le_trans F.above (by show @LE.le Nat _ L H2.objs.size; lia)⟩
      obtain ⟨ov, hov, hovd⟩ := hc₄
      have hX₀ : h₀.get? (H2.objs.size + 1) = none := Heap.get?_none_of_le (Nat.le_trans F.above (by show @LE.le Nat _ L (H2.objs.size + 1); lia))
      have N₄ : News h₀ H2.objs.size h₄ ((H2.objs.size + 1, ov) :: news) := fun p hp => by
        rcases List.mem_cons.mp hp with rfl | hp
        · exact ⟨hov, hXC, hX₀⟩
        · exact ⟨ks _ _ (N p hp).1, (old2 _ _ (N p hp).1).2.1, (N p hp).2.2⟩
      have hst₄ : St (i + 1) h₄ := W.frame _ _ _ hst₃ fun b hb o e => hs₄.extBut b o (below b (hfp b hb)).2.1 e
      refine wpAny_mono (K H2.objs.size (H2.objs.size + 1) ov i v h₄ s.gens s.drawn _ s.os _ ⟨hlt, hPv⟩ F₄ N₄ hovd (fun p hp => (old2 _ _ (N p hp).1).2.2.1) ks) (fun yv s₈ h₈ => ?_) fun _ _ f => f.elim
      obtain ⟨hGv, h₈, tk₈, rfl, hk₈⟩ := h₈
      obtain ⟨cap, hpl⟩ := hpl
      have zD : h₈.get? h₂.objs.size = some (listOf ys cap) := hk₈ _ _ (k34 _ _ (fun q => absurd (q ▸ hIlt) (Nat.lt_irrefl _)) (Ne.symm hXD) hpl)
      refine append_at (hsz := by rw [PySem.sizeLine_eq]; lia) zD fun h₉ hs₉ hD₉ => ?_
      have k9 : ∀ b o, b ≠ h₂.objs.size → h₄.get? b = some o → h₉.get? b = some o := fun b o hb e => hs₉.extBut b o hb (hk₈ b o e)
      refine ⟨n + 1 - (i + 1), by lia, h₉, tk₈, i + 1, ys.push yv, _, _, rfl, hlt, rfl, by simp [hyl], W.frame _ _ _ hst₄ fun b hb o e => k9 b o (below b (hfp b hb)).2.2 e, hn₄.at' fun o e => k9 _ o (Ne.symm hDC) e, ⟨ov, k9 _ _ hXD hov, hovd⟩, ⟨_, hD₉⟩, fun b o e => k9 b o (old2 b o e).2.2.2 (ks b o e), fun j y e => ?_⟩
      rw [Array.getElem?_push] at e
      split at e
      · rename_i hj
        have hj2 : j = i := by lia
        subst hj2
        cases e
        exact ⟨v, hPv, hGv⟩
      · exact hG j y e
    · have hin : i = n := by lia
      subst hin
      refine W.done _ _ _ hst' fun h₃ tk₃ hk₃ => ?_
      obtain ⟨cap, hpl⟩ := hpl
      have k3 : ∀ b o, b ≠ I → h'.get? b = some o → h₃.get? b = some o := fun b o hb e => hk₃ b o (by simpa using hb) e
      have ks : ∀ b o, s.heap.get? b = some o → h₃.get? b = some o := fun b o e => k3 b o (old2 b o e).1 (hkp b o e)
      have hDn : s.heap.get? h₂.objs.size = none := Heap.get?_none_of_le hs1
      have hCn : s.heap.get? H2.objs.size = none := Heap.get?_none_of_le (by show @LE.le Nat _ s.heap.objs.size H2.objs.size; lia)
      refine hRR _ _ h₃ _ ys cap m' (F.keeps ks) (fun p hp => ?_) hDn hCn (Ne.symm hDC) (hn'.at' fun o e => k3 _ o (fun q => absurd (q ▸ hIlt) (by lia)) e) ⟨hyl, hG⟩ ks
      rcases List.mem_cons.mp hp with rfl | hp
      · exact ⟨k3 _ _ (fun q => absurd (q ▸ hIlt) (Nat.lt_irrefl _)) hpl, (fresh_in F hDn).1, (fresh_in F hDn).2⟩
      · exact ⟨ks _ _ (N p hp).1, (N p hp).2⟩
  exact codeAny_compStart_list (loop _ ⟨_, rfl⟩) (W.self 0 _ _ _ (W.frame _ _ _ hst fun b _ o e => old b o e) (loop _ ⟨_, rfl⟩))
end block_cell_e
theorem block_cell {prog : Program} {w : World} {A : Around} {E : Value → Shared → Prop} {s : Shared} {env : Env} {h₀ : Heap} {L : Addr} {m : Str → Option Value} {news : List (Addr × Obj)} {h₂ : Heap} {tk₂ : Nat} {elt iter : Expr} {x : Str} {px : Pos} {scope : Scope} {cl : List (Str × Addr)} {pos : Pos} {I : Addr} {fp : List Addr} {n : Nat} {P : Nat → Value → Prop} {St : Nat → Heap → Prop} {G : Value → Value → Prop} {RR : Value → Addr → Result → Shared → Prop}
    (W : Walks prog w A I fp [I] n P St) (hs : ∀ b o, s.heap.get? b = some o → h₂.get? b = some o) (hI : s.heap.get? I = none) (hs1 : @LE.le Nat _ s.heap.objs.size h₂.objs.size) (hn : n ≤ 1000) (hst : St 0 h₂) (hfp : ∀ b ∈ fp, b < h₂.objs.size) (F : Fr h₀ L s.heap m) (N : News h₀ L s.heap news)
    (hcells : ∀ k, cellsFrom k scope.names cl = (x, k) :: cl) (hpush : ∀ h : Heap, pushCells h scope.names = h.push { cls := .type "cell", data := .cell none }) (hkind : scope.kind = .function) (hx : (compEnvC scope cl 0 env).kindOf x = some .cell)
    (K : EltOkC prog w A h₀ news env scope cl x elt (fun i v => i < n ∧ P i v) G s)
    (hRR : ∀ D C h' tk (ys : Array Value) c m', Fr h₀ L h' m → News h₀ L h' ((D, listOf ys c) :: news) → s.heap.get? D = none → s.heap.get? C = none → C ≠ D → h'.Ns C m' → Made1 n P G ys → (∀ b o, s.heap.get? b = some o → h'.get? b = some o) → RR (.ref D) C (.ok .next) { s with heap := h', toks := tk }) : wpAny (model prog w) A (newList []) (fun acc s₃ => wpAny (model prog w) A (newFunctionEnv scope env.globals cl [] env.qual none .none (some env)) (fun cenv s₄ =>
      codeAny (model prog w) A (.compStart (.ListComp elt [⟨.Name x px, iter, [], 0⟩] scope pos) 0 (.ref I) acc { cenv with scope := relabel scope env }) (RR acc cenv.locals) s₄) E s₃) E { s with heap := h₂, toks := tk₂ } := epsU (P := block_cell_e.zzS) (by with_unfolding_all exact block_cell_e.zzcore) (prog, w, A, E, s, env, h₀, L, m, news, h₂, tk₂, elt, iter, x, px, scope, cl, pos, I, fp, n, P, St, G, RR) W hs hI hs1 hn hst hfp F N hcells hpush hkind hx K hRR
section
variable {prog : Program} {w : World} {A : Around} {E : Value → Shared → Prop} {s : Shared} {env : Env} {h₀ : Heap} {L : Addr} {m : Str → Option Value} {news : List (Addr × Obj)}
end
end Mine.Internal
namespace Mine.Internal
theorem neRow2 {a d : Addr} {o : Obj} {news : List (Addr × Obj)} (h : ∀ p ∈ news, @Ne Nat p.1 d) (hm : (a, o) ∈ news) : a ≠ d := h _ hm
theorem neRow {a d : Addr} {o : Obj} {news : List (Addr × Obj)} (h : ∀ p ∈ news, @Ne Nat p.1 a) (hm : (d, o) ∈ news) : a ≠ d := fun q => h _ hm q.symm
noncomputable def RowPost (R : Value → Obj → Prop) (v : Value) (s₃ : Shared) (y : Value) (s₄ : Shared) : Prop :=
  ∃ a o h' tk', y = .ref a ∧ s₄ = { s₃ with heap := h', toks := tk' } ∧ s₃.heap.get? a = none ∧ h'.get? a = some o ∧ R v o ∧ (∀ b o, s₃.heap.get? b = some o → h'.get? b = some o)
theorem RowPost.intro {R : Value → Obj → Prop} {v : Value} {s₃ : Shared} {g h' : Heap} {L a : Addr} {o : Obj} {tk' : Nat} {news : List (Addr × Obj)} (N : News g L h' news) (hm : (a, o) ∈ news) (hn : s₃.heap.get? a = none) (st : ∀ b o, s₃.heap.get? b = some o → h'.get? b = some o) (r : R v o) :
    RowPost R v s₃ (.ref a) { s₃ with heap := h', toks := tk' } := ⟨a, o, h', tk', rfl, rfl, hn, (N _ hm).1, r, st⟩
inductive RowsOn : Prop
  | mk
theorem Calls.useMadeR {w : World} {n : Nat} {f : Value} {args : List Value} {ns : List Int} {A : Around} {s : Shared} {Q E : Value → Shared → Prop} {g : Heap} {L : Addr} {m : Str → Option Value} {news : List (Addr × Obj)} (_ : RowsOn)
    (C : Calls w n f args s.heap (MadeInts s.heap ns)) (F : Fr g L s.heap m) (N : News g L s.heap news)
    (k : ∀ a (ys : List Value) c h' tk', IntsAre ys ns → Fr g L h' m → News g L h' ((a, listOf ys.toArray c) :: news) → s.heap.get? a = none → (∀ b o, s.heap.get? b = some o → h'.get? b = some o) → Q (.ref a) { s with heap := h', toks := tk' })
    (hh : autoParam (A.handled = none) auR) (hd : autoParam (A.depth ≤ n) auL) (hu : autoParam (A.units ≤ 8 * n) auL) :
    wpAny (model Challenge.rw_np0089_01.row.prog w) A (call f args) Q E s := by
  refine C A s Q E hh hd hu rfl fun v h' tk' st p => ?_
  obtain ⟨a, ys, c, rfl, ha, hn, l, rfl, I⟩ := p
  refine k a l c h' tk' I (F.keeps st) (fun p hp => ?_) hn st
  rcases List.mem_cons.mp hp with rfl | hp
  · exact ⟨ha, fresh_in F hn⟩
  · exact ⟨st _ _ (N p hp).1, (N p hp).2⟩
noncomputable def RowsAre (P : Nat → Value → Prop) (R : Value → Obj → Prop) (n : Nat) (ys : Array Value) (rows : List (Addr × Obj)) : Prop :=
  ys.size = n ∧ ∀ (j : Nat) (y : Value), ys[j]? = some y → ∃ v a o, P j v ∧ y = .ref a ∧ (a, o) ∈ rows ∧ R v o
theorem RowsAre.mono {P : Nat → Value → Prop} {R : Value → Obj → Prop} {n : Nat} {ys : Array Value} {rows rows' : List (Addr × Obj)} (x : RowsAre P R n ys rows) (h : ∀ p ∈ rows, p ∈ rows') : RowsAre P R n ys rows' :=
  ⟨x.1, fun j y e => let ⟨v, a, o, p, q, r, t⟩ := x.2 j y e; ⟨v, a, o, p, q, h _ r, t⟩⟩
theorem rows_pad (q : Addr × Obj) : ∀ rows : List (Addr × Obj), rows.length ≤ 4 → ∃ a0 o0 a1 o1 a2 o2 a3 o3, (∀ p ∈ rows, p ∈ [(a0, o0), (a1, o1), (a2, o2), (a3, o3)]) ∧ ∀ p ∈ [(a0, o0), (a1, o1), (a2, o2), (a3, o3)], p ∈ rows ∨ p = q
  | [], _ => ⟨q.1, q.2, q.1, q.2, q.1, q.2, q.1, q.2, by simp, by simp⟩
  | [a], _ => ⟨a.1, a.2, q.1, q.2, q.1, q.2, q.1, q.2, by simp, by simp⟩
  | [a, b], _ => ⟨a.1, a.2, b.1, b.2, q.1, q.2, q.1, q.2, by simp, by simp⟩
  | [a, b, c], _ => ⟨a.1, a.2, b.1, b.2, c.1, c.2, q.1, q.2, by simp, by simp⟩
  | [a, b, c, d], _ => ⟨a.1, a.2, b.1, b.2, c.1, c.2, d.1, d.2, by simp, by simp⟩
  | _ :: _ :: _ :: _ :: _ :: _, h => by simp at h
section
variable {prog : Program} {w : World} {A : Around} {E : Value → Shared → Prop} {s : Shared} {env : Env} {h₀ : Heap} {L : Addr} {m : Str → Option Value} {news : List (Addr × Obj)}
noncomputable def Blk (prog : Program) (w : World) (A : Around) (env : Env) (target elt iter : Expr) (ifs : List Expr) (scope : Scope) (cl : List (Str × Addr)) (pos : Pos) (E : Value → Shared → Prop) (use : Option (Value → Sem Unit)) (Q : Value → Shared → Prop) (it : Value) (s₂ : Shared) : Prop :=
  wpAny (model prog w) A (newList []) (fun acc s₃ => wpAny (model prog w) A (newFunctionEnv scope env.globals cl [] env.qual none .none (some env)) (fun cenv s₄ =>
      codeAny (model prog w) A (.compStart (.ListComp elt [⟨target, iter, ifs, 0⟩] scope pos) 0 it acc { cenv with scope := relabel scope env }) (compPost (model prog w) A E use Q acc cenv.locals) s₄) E s₃) E s₂
noncomputable def BlkA (prog : Program) (w : World) (A : Around) (env : Env) (target elt iter : Expr) (ifs : List Expr) (scope : Scope) (cl : List (Str × Addr)) (pos : Pos) (E : Value → Shared → Prop) (y : Str) (py : Pos) (Q : Flow → Shared → Prop) (it : Value) (s₂ : Shared) : Prop :=
  Blk prog w A env target elt iter ifs scope cl pos E (some (assign (.Name y py) env)) (fun _ s' => Q .next s') it s₂
inductive BlkAt (pos : Pos) : Prop
  | mk
theorem blk_eval {elt iter target : Expr} {ifs : List Expr} {scope : Scope} {cl : List (Str × Addr)} {pos : Pos} {Q : Value → Shared → Prop} (_ : BlkAt pos)
    (hclos : closureFor scope env = pure cl) (hkind : scope.kind = .function) (hnames : ∀ z ∈ scope.names, z.2 = .local → scope.names.lookup z.1 = some .local)
    (h : wpAny (model prog w) A (eval iter env) (fun xv s₁ => wpAny (model prog w) A (pyIter xv) (fun it s₂ => Blk prog w A env target elt iter ifs scope cl pos E none Q it s₂) E s₁) E s)
    (hs : autoParam (∀ x, foldedSetIterable iter env x = pure x) auJ) :
    wpAny (model prog w) A (eval (.ListComp elt [⟨target, iter, ifs, 0⟩] scope pos) env) Q E s := by
  rw [eval_ListComp]
  exact wpAny_comprehension_free (use := none) rfl hs hclos hkind hnames (wpAny_mono h (fun xv s₁ h₁ => wpAny_mono h₁ (fun it s₂ h₂ => h₂) fun _ _ e => e) fun _ _ e => e)
theorem blk_assign {elt iter target : Expr} {ifs : List Expr} {y : Str} {py : Pos} {scope : Scope} {cl : List (Str × Addr)} {pos spos : Pos} {Q : Flow → Shared → Prop} (_ : BlkAt pos)
    (hsw : swapsWith (.ListComp elt [⟨target, iter, ifs, 0⟩] scope pos) (some (.Name y py)) spos.line env = pure true)
    (hclos : closureFor scope env = pure cl) (hkind : scope.kind = .function) (hnames : ∀ z ∈ scope.names, z.2 = .local → scope.names.lookup z.1 = some .local)
    (h : wpAny (model prog w) A (eval iter env) (fun xv s₁ => wpAny (model prog w) A (pyIter xv) (fun it s₂ => BlkA prog w A env target elt iter ifs scope cl pos E y py Q it s₂) E s₁) E s)
    (hs : autoParam (∀ x, foldedSetIterable iter env x = pure x) auJ) :
    wpAny (model prog w) A (exec (.Assign [.Name y py] (.ListComp elt [⟨target, iter, ifs, 0⟩] scope pos) spos) env) Q E s := by
  rw [exec_Assign_Name_used _ _ _ _ hsw]
  refine wpAny_bind (wpAny_standAt (wpAny_bind ?_))
  show wpAny _ A (do let _ ← comprehension (.ListComp elt [⟨target, iter, ifs, 0⟩] scope pos) scope env _ (newList []) false (eval iter env) (some (assign (.Name y py) env))) _ _ s
  exact wpAny_bind (wpAny_mono (wpAny_comprehension_free (use := some (assign (.Name y py) env)) (Q := fun _ s' => Q .next s') rfl hs hclos hkind hnames
    (wpAny_mono h (fun xv s₁ h₁ => wpAny_mono h₁ (fun it s₂ h₂ => h₂) fun _ _ e => e) fun _ _ e => e)) (fun _ s' hq => wpAny_pure (wpAny_pure hq)) fun _ _ e => e)
inductive CompP (pos : Pos) (G : Value → Value → Prop) : Prop
  | mk
theorem comp_rangeC {elt iter : Expr} {x y : Str} {px py : Pos} {scope : Scope} {cl : List (Str × Addr)} {pos : Pos} {r : Addr} {a b : Int} {t u v : Tok} {n : Nat} {G : Value → Value → Prop} {Q : Flow → Shared → Prop} (_ : CompP pos G)
    (hh : A.handled = none) (hr : IsRange s.heap r a b 1 t u v) (hsm : Builtin.Range.small a b 1 = true) (hn : Builtin.Range.rangeSize a b 1 = ((n : Nat) : Int)) (hlen : n ≤ 1000) (F : Fr h₀ env.locals s.heap m) (N : News h₀ env.locals s.heap news)
    (hcells : ∀ k, cellsFrom k scope.names cl = (x, k) :: cl) (hpush : ∀ h : Heap, pushCells h scope.names = h.push { cls := .type "cell", data := .cell none }) (hkind : scope.kind = .function) (hx : (compEnvC scope cl 0 env).kindOf x = some .cell)
    (hy : env.kindOf y = some .local) (hp : (env.scope.kind == .class || (env.scope.kind == .module && env.locals != env.globals)) = false)
    (K : EltOkC prog w A h₀ news env scope cl x elt (fun i v => i < n ∧ ∃ t, v = .int (a + (i : Int)) t) G s)
    (k : ∀ D h' tk (ys : List Value) c, Fr h₀ env.locals h' (fun z => if z = y then some (.ref D) else m z) → News h₀ env.locals h' ((D, listOf ys.toArray c) :: news) → (∀ p ∈ news, @Ne Nat p.1 D) → Made1 n (fun i v => ∃ t, v = .int (a + (i : Int)) t) G ys.toArray → Q .next { s with heap := h', toks := tk }) :
    wpAny (model prog w) A (pyIter (.ref r)) (fun it s₂ => BlkA prog w A env (.Name x px) elt iter [] scope cl pos E y py Q it s₂) E s := by
  refine wpAny_pyIter_range hr hsm ?_
  refine block_cell (s := s) (tk₂ := s.toks) (RR := fun acc C => compPost (model prog w) A E (some (assign (.Name y py) env)) (fun _ s' => Q .next s') acc C) (PyProof.Rows.LCg.range_walks (prog := prog) (w := w) (A := A) (I := s.heap.objs.size) hh a n) (fun b o e => Heap.get?_push_of_some _ e) (Heap.get?_none_of_le (Nat.le_refl _)) (by rw [Heap.size_push]; exact Nat.le_succ _) hlen (by show IsRangeIter _ _ _ _ _; rw [hn]; simpa using Heap.get?_push_size _ rfl) (fun b hb => ?_) F N hcells hpush hkind hx K ?_
  · rw [List.mem_singleton.mp hb]
    show s.heap.objs.size < (s.heap.push _).objs.size
    rw [Heap.size_push]; exact Nat.lt_succ_self _
  · intro D C h' tk ys c m' F' N' hD hC hCD hn' mk st
    obtain ⟨yl⟩ := ys
    refine post_assign F' N' hn' (fresh_in F hC).2 (fresh_in F hC).1 (fun p hp q => ?_) hy hp fun h₂ tk₂ F₂ N₂ _ => k D h₂ tk₂ yl c F₂ N₂ (fun p hp q => ?_) mk
    · rcases List.mem_cons.mp hp with rfl | hp
      · exact hCD q.symm
      · rw [← q, (N p hp).1] at hC; cases hC
    · rw [show D = p.1 from q.symm, (N p hp).1] at hD; cases hD
noncomputable def EltOkR (prog : Program) (w : World) (A : Around) (h₀ : Heap) (news : List (Addr × Obj)) (env : Env) (scope : Scope) (cl : List (Str × Addr)) (x : Str) (elt : Expr) (P : Nat → Value → Prop) (R : Value → Obj → Prop) (s : Shared) : Prop :=
  ∀ (C : Addr) (i : Nat) (v : Value) (h : Heap) (g : Array GenState) (d : Drawn) (tk : Nat) (os : OsState) (m₃ : Str → Option Value), RowsOn → P i v → Fr h₀ C h m₃ → News h₀ C h news → m₃ x = some v → (∀ b o, s.heap.get? b = some o → h.get? b = some o) →
    wpAny (model prog w) A (eval elt (compEnvC scope cl C env)) (RowPost R v ⟨h, g, d, tk, os⟩) (fun _ _ => False) ⟨h, g, d, tk, os⟩
inductive RowsP (pos : Pos) (R : Value → Obj → Prop) : Prop
  | mk
end
namespace block_rows_e
noncomputable def zzQ (prog : Program) (w : World) (A : Around) (E : Value → Shared → Prop) (s : Shared) (env : Env) (h₀ : Heap) (L : Addr) (m : Str → Option Value) (news : List (Addr × Obj)) (h₂ : Heap) (tk₂ : Nat) (elt : Expr) (iter : Expr) (x : Str) (px : Pos) (scope : Scope) (cl : List (Str × Addr)) (pos : Pos) (I : Addr) (fp : List Addr) (n : Nat) (P : Nat → Value → Prop) (St : Nat → Heap → Prop) (R : Value → Obj → Prop) (RR : Value → Addr → Result → Shared → Prop) : Prop := ∀ W : Walks prog w A I fp [I] n P St, ∀ hs : ∀ b o, s.heap.get? b = some o → h₂.get? b = some o, ∀ hI : s.heap.get? I = none, ∀ hs1 : @LE.le Nat _ s.heap.objs.size h₂.objs.size, ∀ hIo : ∀ i h, St i h → ∃ o, h.get? I = some o, ∀ hn : n ≤ 4, ∀ hst : St 0 h₂, ∀ hfp : ∀ b ∈ fp, b < h₂.objs.size, ∀ F : Fr h₀ L s.heap m, ∀ N : News h₀ L s.heap news, ∀ hcell : ∀ y ∈ scope.names, y.2 ≠ .cell, ∀ hkind : scope.kind = .function, ∀ hx : scope.names.lookup x = some .local, ∀ K : EltOkR prog w A h₀ news env scope cl x elt (fun i v => i < n ∧ P i v) R s, ∀ hRR : ∀ D C h' tk (ys : Array Value) c m' a0 o0 a1 o1 a2 o2 a3 o3, Fr h₀ L h' m → News h₀ L h' ((D, listOf ys c) :: (a0, o0) :: (a1, o1) :: (a2, o2) :: (a3, o3) :: news) → s.heap.get? D = none → s.heap.get? C = none → C ≠ D → h'.Ns C m' → (∀ p ∈ [(a0, o0), (a1, o1), (a2, o2), (a3, o3)], s.heap.get? p.1 = none ∧ p.1 ≠ C) → RowsAre P R n ys [(a0, o0), (a1, o1), (a2, o2), (a3, o3)] → (∀ b o, s.heap.get? b = some o → h'.get? b = some o) → RR (.ref D) C (.ok .next) { s with heap := h', toks := tk }, wpAny (model prog w) A (newList []) (fun acc s₃ => wpAny (model prog w) A (newFunctionEnv scope env.globals cl [] env.qual none .none (some env)) (fun cenv s₄ =>
      codeAny (model prog w) A (.compStart (.ListComp elt [⟨.Name x px, iter, [], 0⟩] scope pos) 0 (.ref I) acc { cenv with scope := relabel scope env }) (RR acc cenv.locals) s₄) E s₃) E { s with heap := h₂, toks := tk₂ }
noncomputable abbrev zzT : Type := Program × World × Around × (Value → Shared → Prop) × Shared × Env × Heap × Addr × (Str → Option Value) × (List (Addr × Obj)) × Heap × Nat × Expr × Expr × Str × Pos × Scope × (List (Str × Addr)) × Pos × Addr × (List Addr) × Nat × (Nat → Value → Prop) × (Nat → Heap → Prop) × (Value → Obj → Prop) × (Value → Addr → Result → Shared → Prop)
noncomputable def zzS (z : zzT) : Prop := zzQ z.1 z.2.1 z.2.2.1 z.2.2.2.1 z.2.2.2.2.1 z.2.2.2.2.2.1 z.2.2.2.2.2.2.1 z.2.2.2.2.2.2.2.1 z.2.2.2.2.2.2.2.2.1 z.2.2.2.2.2.2.2.2.2.1 z.2.2.2.2.2.2.2.2.2.2.1 z.2.2.2.2.2.2.2.2.2.2.2.1 z.2.2.2.2.2.2.2.2.2.2.2.2.1 z.2.2.2.2.2.2.2.2.2.2.2.2.2.1 z.2.2.2.2.2.2.2.2.2.2.2.2.2.2.1 z.2.2.2.2.2.2.2.2.2.2.2.2.2.2.2.1 z.2.2.2.2.2.2.2.2.2.2.2.2.2.2.2.2.1 z.2.2.2.2.2.2.2.2.2.2.2.2.2.2.2.2.2.1 z.2.2.2.2.2.2.2.2.2.2.2.2.2.2.2.2.2.2.1 z.2.2.2.2.2.2.2.2.2.2.2.2.2.2.2.2.2.2.2.1 z.2.2.2.2.2.2.2.2.2.2.2.2.2.2.2.2.2.2.2.2.1 z.2.2.2.2.2.2.2.2.2.2.2.2.2.2.2.2.2.2.2.2.2.1 z.2.2.2.2.2.2.2.2.2.2.2.2.2.2.2.2.2.2.2.2.2.2.1 z.2.2.2.2.2.2.2.2.2.2.2.2.2.2.2.2.2.2.2.2.2.2.2.1 z.2.2.2.2.2.2.2.2.2.2.2.2.2.2.2.2.2.2.2.2.2.2.2.2.1 z.2.2.2.2.2.2.2.2.2.2.2.2.2.2.2.2.2.2.2.2.2.2.2.2.2
noncomputable def zzc : zzT := @Classical.epsilon zzT ⟨(cN, zw, zA, cN, zs, cN, cN, cN, cN, cN, cN, cN, cN, cN, cN, cN, cN, cN, cN, cN, cN, cN, cN, cN, cN, cN)⟩ fun z => ¬ zzS z
@[irreducible] def prog : Program := zzc.1
@[irreducible] def w : World := zzc.2.1
@[irreducible] def A : Around := zzc.2.2.1
@[irreducible] def E : Value → Shared → Prop := zzc.2.2.2.1
@[irreducible] def s : Shared := zzc.2.2.2.2.1
@[irreducible] def env : Env := zzc.2.2.2.2.2.1
@[irreducible] def h₀ : Heap := zzc.2.2.2.2.2.2.1
@[irreducible] def L : Addr := zzc.2.2.2.2.2.2.2.1
@[irreducible] def m : Str → Option Value := zzc.2.2.2.2.2.2.2.2.1
@[irreducible] def news : List (Addr × Obj) := zzc.2.2.2.2.2.2.2.2.2.1
@[irreducible] def h₂ : Heap := zzc.2.2.2.2.2.2.2.2.2.2.1
@[irreducible] def tk₂ : Nat := zzc.2.2.2.2.2.2.2.2.2.2.2.1
@[irreducible] def elt : Expr := zzc.2.2.2.2.2.2.2.2.2.2.2.2.1
@[irreducible] def iter : Expr := zzc.2.2.2.2.2.2.2.2.2.2.2.2.2.1
@[irreducible] def x : Str := zzc.2.2.2.2.2.2.2.2.2.2.2.2.2.2.1
@[irreducible] def px : Pos := zzc.2.2.2.2.2.2.2.2.2.2.2.2.2.2.2.1
@[irreducible] def scope : Scope := zzc.2.2.2.2.2.2.2.2.2.2.2.2.2.2.2.2.1
@[irreducible] def cl : List (Str × Addr) := zzc.2.2.2.2.2.2.2.2.2.2.2.2.2.2.2.2.2.1
@[irreducible] def pos : Pos := zzc.2.2.2.2.2.2.2.2.2.2.2.2.2.2.2.2.2.2.1
@[irreducible] def I : Addr := zzc.2.2.2.2.2.2.2.2.2.2.2.2.2.2.2.2.2.2.2.1
@[irreducible] def fp : List Addr := zzc.2.2.2.2.2.2.2.2.2.2.2.2.2.2.2.2.2.2.2.2.1
@[irreducible] def n : Nat := zzc.2.2.2.2.2.2.2.2.2.2.2.2.2.2.2.2.2.2.2.2.2.1
@[irreducible] def P : Nat → Value → Prop := zzc.2.2.2.2.2.2.2.2.2.2.2.2.2.2.2.2.2.2.2.2.2.2.1
@[irreducible] def St : Nat → Heap → Prop := zzc.2.2.2.2.2.2.2.2.2.2.2.2.2.2.2.2.2.2.2.2.2.2.2.1
@[irreducible] def R : Value → Obj → Prop := zzc.2.2.2.2.2.2.2.2.2.2.2.2.2.2.2.2.2.2.2.2.2.2.2.2.1
@[irreducible] def RR : Value → Addr → Result → Shared → Prop := zzc.2.2.2.2.2.2.2.2.2.2.2.2.2.2.2.2.2.2.2.2.2.2.2.2.2
theorem zzcore : zzQ prog w A E s env h₀ L m news h₂ tk₂ elt iter x px scope cl pos I fp n P St R RR := by
  intro W hs hI hs1 hIo hn hst hfp F N hcell hkind hx K hRR
  refine wpAny_newObj_type (wpAny_newFunctionEnv hcell (by intro y hy; simp at hy) (fun h₁ hns₁ hsb₁ => ?_) hkind)
  dsimp only at hns₁ hsb₁ ⊢
  generalize hH2 : h₂.push { cls := .type "list", dict := none, data := .seq ([] : List Value).toArray } = H2 at hns₁ hsb₁ ⊢
  have hC : @Eq Nat H2.objs.size (h₂.objs.size + 1) := by rw [← hH2, Heap.size_push]
  have hDC : h₂.objs.size ≠ H2.objs.size := Nat.ne_of_lt (by lia)
  have below : ∀ b, @LT.lt Nat _ b h₂.objs.size → b ≠ H2.objs.size ∧ b ≠ h₂.objs.size := fun b hb => ⟨Nat.ne_of_lt (by lia), Nat.ne_of_lt hb⟩
  have old : ∀ b o, h₂.get? b = some o → h₁.get? b = some o := fun b o e => hsb₁.extBut b o (below b (Heap.lt_size e)).1 (Heap.get?_push_of_some _ (hH2 ▸ Heap.get?_push_of_some _ e))
  have hacc : h₁.PlainList h₂.objs.size #[] := ⟨_, hsb₁.extBut _ _ hDC (Heap.get?_push_of_some _ (hH2 ▸ Heap.get?_push_size _ rfl))⟩
  have hIlt : @LT.lt Nat _ I h₂.objs.size := hfp I (W.sub I (List.mem_singleton.mpr rfl))
  have old2 : ∀ b o, s.heap.get? b = some o → b ≠ I ∧ b ≠ H2.objs.size ∧ b ≠ h₂.objs.size := fun b o e =>
    ⟨fun q => (by rw [q, hI] at e; cases e), below b (Heap.lt_size (hs b o e))⟩
  have hLlt : @LT.lt Nat _ L s.heap.objs.size := F.ns.lt
  have loop : ∀ s₃ : Shared, (∃ tk, s₃ = { s with heap := h₁, toks := tk }) →
      codeAny (model prog w) A (.compLoop (.ListComp elt [⟨.Name x px, iter, [], 0⟩] scope pos) 0 (.ref I) (.ref h₂.objs.size) (compEnvC scope cl H2.objs.size env))
        (RR (.ref h₂.objs.size) H2.objs.size) s₃ := by
    rintro s₃ ⟨tk₀, rfl⟩
    refine codeAny_compLoop_list
      (fun n' s' => ∃ h' tk i ys m' rows, s' = { s with heap := h', toks := tk } ∧ i ≤ n ∧ n' = n + 1 - i ∧ St i h' ∧ h'.Ns H2.objs.size m' ∧ h'.PlainList h₂.objs.size ys ∧ (∀ b o, s.heap.get? b = some o → h'.get? b = some o) ∧
        RowsAre P R i ys rows ∧ rows.length = i ∧ (∀ p ∈ rows, h'.get? p.1 = some p.2 ∧ s.heap.get? p.1 = none ∧ p.1 ≠ I ∧ p.1 ≠ H2.objs.size ∧ p.1 ≠ h₂.objs.size)) ?_ (n + 1)
      ⟨h₁, _, 0, #[], _, [], rfl, Nat.zero_le _, rfl, W.frame _ _ _ hst fun b _ o e => old b o e, hns₁, hacc, fun b o e => old b o (hs b o e), ⟨rfl, fun j y e => by simp at e⟩, rfl, fun p hp => nomatch hp⟩
    rintro n' s' ⟨h', tk, i, ys, m', rows, rfl, hi, rfl, hst', hn', hpl, hkp, hG, hrl, hrows⟩
    have hyl := hG.1
    by_cases hlt : i < n
    · refine W.item i _ _ _ hlt hst' fun v h₃ tk₃ hPv hst₃ hk₃ => ?_
      have k3 : ∀ b o, b ≠ I → h'.get? b = some o → h₃.get? b = some o := fun b o hb e => hk₃ b o (by simpa using hb) e
      refine wpAny_assign_Name (wpAny_storeName_local (lookup_relabel_local hx) (hn'.at' fun o e => k3 _ o (fun q => absurd (q ▸ hIlt) (by lia)) e) (fun h₄ hn₄ hs₄ => ?_) (by simp [compEnvC, relabel, hkind]))
      have k34 : ∀ b o, b ≠ I → b ≠ H2.objs.size → h'.get? b = some o → h₄.get? b = some o := fun b o h1 h2 e => hs₄.extBut b o h2 (k3 b o h1 e)
      have ks : ∀ b o, s.heap.get? b = some o → h₄.get? b = some o := fun b o e => k34 b o (old2 b o e).1 (old2 b o e).2.1 (hkp b o e)
      have F₄ : Fr h₀ H2.objs.size h₄ _ := ⟨hn₄, fun b o e => ks b o (F.keep b o e), Nat.le_trans F.above (by show @LE.le Nat _ L H2.objs.size; lia)⟩
      have N₄ : News h₀ H2.objs.size h₄ news := fun p hp => ⟨ks _ _ (N p hp).1, (old2 _ _ (N p hp).1).2.1, (N p hp).2.2⟩
      have hst₄ : St (i + 1) h₄ := W.frame _ _ _ hst₃ fun b hb o e => hs₄.extBut b o (below b (hfp b hb)).1 e
      obtain ⟨oI, hoI⟩ := hIo _ _ hst₄
      obtain ⟨oC, _, _, hoC, _⟩ := hn₄
      obtain ⟨cap, hpl⟩ := hpl
      have hD₄ : h₄.get? h₂.objs.size = some (listOf ys cap) := k34 _ _ (fun q => absurd (q ▸ hIlt) (Nat.lt_irrefl _)) hDC hpl
      refine wpAny_mono (K H2.objs.size i v h₄ s.gens s.drawn _ s.os _ .mk ⟨hlt, hPv⟩ F₄ N₄ (by simp) ks) (fun yv s₈ h₈ => ?_) fun _ _ f => f.elim
      obtain ⟨a, o, h₈, tk₈, rfl, rfl, hna, hao, hRo, hk₈⟩ := h₈
      have hna' : h₄.get? a = none := hna
      have zD : h₈.get? h₂.objs.size = some (listOf ys cap) := hk₈ _ _ hD₄
      refine append_at (hsz := by rw [PySem.sizeLine_eq]; lia) zD fun h₉ hs₉ hD₉ => ?_
      have k9 : ∀ b o, b ≠ h₂.objs.size → h₄.get? b = some o → h₉.get? b = some o := fun b o hb e => hs₉.extBut b o hb (hk₈ b o e)
      have haD : a ≠ h₂.objs.size := fun q => by rw [q, hD₄] at hna'; cases hna'
      refine ⟨n + 1 - (i + 1), by lia, h₉, tk₈, i + 1, ys.push (.ref a), _, (a, o) :: rows, rfl, hlt, rfl, W.frame _ _ _ hst₄ fun b hb o e => k9 b o (below b (hfp b hb)).2 e, F₄.ns.at' fun o e => k9 _ o (Ne.symm hDC) e, ⟨_, hD₉⟩, fun b o e => k9 b o (old2 b o e).2.2 (ks b o e), ⟨by simp [hyl], fun j y e => ?_⟩, by simp [hrl], fun p hp => ?_⟩
      · rw [Array.getElem?_push] at e
        split at e
        · rename_i hj
          have hj2 : j = i := by lia
          subst hj2
          cases e
          exact ⟨v, a, o, hPv, rfl, List.mem_cons_self, hRo⟩
        · obtain ⟨v', a', o', p1, p2, p3, p4⟩ := hG.2 j y e
          exact ⟨v', a', o', p1, p2, List.mem_cons_of_mem _ p3, p4⟩
      · rcases List.mem_cons.mp hp with rfl | hp
        · refine ⟨hs₉.extBut _ _ haD hao, ?_, fun q => ?_, fun q => ?_, haD⟩
          · cases e : s.heap.get? a with
            | none => rfl
            | some o => rw [ks _ _ e] at hna'; cases hna'
          · rw [show a = I from q, hoI] at hna'; cases hna'
          · rw [show a = H2.objs.size from q, show h₄.get? H2.objs.size = some oC from hoC] at hna'; cases hna'
        · obtain ⟨r1, r2, r3, r4, r5⟩ := hrows p hp
          exact ⟨k9 _ _ r5 (k34 _ _ r3 r4 r1), r2, r3, r4, r5⟩
    · have hin : i = n := by lia
      subst hin
      refine W.done _ _ _ hst' fun h₃ tk₃ hk₃ => ?_
      obtain ⟨cap, hpl⟩ := hpl
      have k3 : ∀ b o, b ≠ I → h'.get? b = some o → h₃.get? b = some o := fun b o hb e => hk₃ b o (by simpa using hb) e
      have ks : ∀ b o, s.heap.get? b = some o → h₃.get? b = some o := fun b o e => k3 b o (old2 b o e).1 (hkp b o e)
      have hDn : s.heap.get? h₂.objs.size = none := Heap.get?_none_of_le hs1
      have hCn : s.heap.get? H2.objs.size = none := Heap.get?_none_of_le (by show @LE.le Nat _ s.heap.objs.size H2.objs.size; lia)
      obtain ⟨a0, o0, a1, o1, a2, o2, a3, o3, hr1, hr2⟩ := rows_pad (h₂.objs.size, listOf ys cap) rows (by lia)
      have hall : ∀ p ∈ [(a0, o0), (a1, o1), (a2, o2), (a3, o3)], (h₃.get? p.1 = some p.2 ∧ p.1 ≠ L ∧ h₀.get? p.1 = none) ∧ s.heap.get? p.1 = none ∧ p.1 ≠ H2.objs.size := fun p hp => by
        rcases hr2 p hp with hp | rfl
        · obtain ⟨r1, r2, r3, r4, r5⟩ := hrows p hp
          exact ⟨⟨k3 _ _ r3 r1, fresh_in F r2⟩, r2, r4⟩
        · exact ⟨⟨k3 _ _ (fun q => absurd (q ▸ hIlt) (Nat.lt_irrefl _)) hpl, fresh_in F hDn⟩, hDn, hDC⟩
      refine hRR _ _ h₃ _ ys cap m' a0 o0 a1 o1 a2 o2 a3 o3 (F.keeps ks) (fun p hp => ?_) hDn hCn (Ne.symm hDC) (hn'.at' fun o e => k3 _ o (fun q => absurd (q ▸ hIlt) (by lia)) e) (fun p hp => (hall p hp).2) (hG.mono hr1) ks
      rcases List.mem_cons.mp hp with rfl | hp
      · exact ⟨k3 _ _ (fun q => absurd (q ▸ hIlt) (Nat.lt_irrefl _)) hpl, (fresh_in F hDn).1, (fresh_in F hDn).2⟩
      · rcases List.mem_append.mp (show p ∈ [(a0, o0), (a1, o1), (a2, o2), (a3, o3)] ++ news from hp) with hp | hp
        · exact (hall p hp).1
        · exact ⟨ks _ _ (N p hp).1, (N p hp).2⟩
  exact codeAny_compStart_list (loop _ ⟨_, rfl⟩) (W.self 0 _ _ _ (W.frame _ _ _ hst fun b _ o e => old b o e) (loop _ ⟨_, rfl⟩))
end block_rows_e
theorem block_rows {prog : Program} {w : World} {A : Around} {E : Value → Shared → Prop} {s : Shared} {env : Env} {h₀ : Heap} {L : Addr} {m : Str → Option Value} {news : List (Addr × Obj)} {h₂ : Heap} {tk₂ : Nat} {elt iter : Expr} {x : Str} {px : Pos} {scope : Scope} {cl : List (Str × Addr)} {pos : Pos} {I : Addr} {fp : List Addr} {n : Nat} {P : Nat → Value → Prop} {St : Nat → Heap → Prop} {R : Value → Obj → Prop} {RR : Value → Addr → Result → Shared → Prop}
    (W : Walks prog w A I fp [I] n P St) (hs : ∀ b o, s.heap.get? b = some o → h₂.get? b = some o) (hI : s.heap.get? I = none) (hs1 : @LE.le Nat _ s.heap.objs.size h₂.objs.size) (hIo : ∀ i h, St i h → ∃ o, h.get? I = some o) (hn : n ≤ 4) (hst : St 0 h₂) (hfp : ∀ b ∈ fp, b < h₂.objs.size) (F : Fr h₀ L s.heap m) (N : News h₀ L s.heap news)
    (hcell : ∀ y ∈ scope.names, y.2 ≠ .cell) (hkind : scope.kind = .function) (hx : scope.names.lookup x = some .local)
    (K : EltOkR prog w A h₀ news env scope cl x elt (fun i v => i < n ∧ P i v) R s)
    (hRR : ∀ D C h' tk (ys : Array Value) c m' a0 o0 a1 o1 a2 o2 a3 o3, Fr h₀ L h' m → News h₀ L h' ((D, listOf ys c) :: (a0, o0) :: (a1, o1) :: (a2, o2) :: (a3, o3) :: news) → s.heap.get? D = none → s.heap.get? C = none → C ≠ D → h'.Ns C m' → (∀ p ∈ [(a0, o0), (a1, o1), (a2, o2), (a3, o3)], s.heap.get? p.1 = none ∧ p.1 ≠ C) → RowsAre P R n ys [(a0, o0), (a1, o1), (a2, o2), (a3, o3)] → (∀ b o, s.heap.get? b = some o → h'.get? b = some o) → RR (.ref D) C (.ok .next) { s with heap := h', toks := tk }) : wpAny (model prog w) A (newList []) (fun acc s₃ => wpAny (model prog w) A (newFunctionEnv scope env.globals cl [] env.qual none .none (some env)) (fun cenv s₄ =>
      codeAny (model prog w) A (.compStart (.ListComp elt [⟨.Name x px, iter, [], 0⟩] scope pos) 0 (.ref I) acc { cenv with scope := relabel scope env }) (RR acc cenv.locals) s₄) E s₃) E { s with heap := h₂, toks := tk₂ } := epsU (P := block_rows_e.zzS) (by with_unfolding_all exact block_rows_e.zzcore) (prog, w, A, E, s, env, h₀, L, m, news, h₂, tk₂, elt, iter, x, px, scope, cl, pos, I, fp, n, P, St, R, RR) W hs hI hs1 hIo hn hst hfp F N hcell hkind hx K hRR
section
variable {prog : Program} {w : World} {A : Around} {E : Value → Shared → Prop} {s : Shared} {env : Env} {h₀ : Heap} {L : Addr} {m : Str → Option Value} {news : List (Addr × Obj)}
theorem post_eval {D C : Addr} {oD : Obj} {h : Heap} {tk : Nat} {m' : Str → Option Value} {Q : Value → Shared → Prop} (F : Fr h₀ L h m) (N : News h₀ L h ((D, oD) :: news)) (hn : h.Ns C m') (hC₀ : h₀.get? C = none) (hCL : C ≠ L) (hCn : ∀ p ∈ (D, oD) :: news, p.1 ≠ C)
    (k : ∀ h', Fr h₀ L h' m → News h₀ L h' ((D, oD) :: news) → (∀ b o, b ≠ C → h.get? b = some o → h'.get? b = some o) → Q (.ref D) { s with heap := h', toks := tk }) :
    compPost (model prog w) A E none Q (.ref D) C (.ok .next) { s with heap := h, toks := tk } :=
  ⟨m', hn, fun h3 hs3 => k h3 (F.change hs3 hCL hC₀) (fun p hp => ⟨hs3.extBut _ _ (hCn p hp) (N p hp).1, (N p hp).2⟩) fun b o b2 e => hs3.extBut b o b2 e⟩
theorem comp_listR {elt iter : Expr} {x : Str} {px : Pos} {scope : Scope} {cl : List (Str × Addr)} {pos : Pos} {l : Addr} {vs : List Value} {R : Value → Obj → Prop} {Q : Value → Shared → Prop} (_ : RowsP pos R)
    (hh : A.handled = none) (hl : s.heap.IsList l vs.toArray) (hlen : vs.length ≤ 4) (F : Fr h₀ L s.heap m) (N : News h₀ L s.heap news)
    (hcell : ∀ y ∈ scope.names, y.2 ≠ .cell) (hkind : scope.kind = .function) (hx : scope.names.lookup x = some .local)
    (K : EltOkR prog w A h₀ news env scope cl x elt (fun i v => i < vs.length ∧ vs[i]? = some v) R s)
    (k : ∀ D h' tk (ys : List Value) c a0 o0 a1 o1 a2 o2 a3 o3, Fr h₀ L h' m → News h₀ L h' ((D, listOf ys.toArray c) :: (a0, o0) :: (a1, o1) :: (a2, o2) :: (a3, o3) :: news) → (∀ p ∈ news, @Ne Nat p.1 D) → (∀ p ∈ news, @Ne Nat p.1 a0) → (∀ p ∈ news, @Ne Nat p.1 a1) → (∀ p ∈ news, @Ne Nat p.1 a2) → (∀ p ∈ news, @Ne Nat p.1 a3) → RowsAre (fun i v => vs[i]? = some v) R vs.length ys.toArray [(a0, o0), (a1, o1), (a2, o2), (a3, o3)] → Q (.ref D) { s with heap := h', toks := tk }) :
    wpAny (model prog w) A (pyIter (.ref l)) (fun it s₂ => Blk prog w A env (.Name x px) elt iter [] scope cl pos E none Q it s₂) E s := by
  obtain ⟨ol, hol, _⟩ := id hl
  refine wpAny_pyIter_list hl ?_
  refine block_rows (s := s) (tk₂ := s.toks) (RR := fun acc C => compPost (model prog w) A E none Q acc C) (walks_list hh hl) (fun b o e => Heap.get?_push_of_some _ e) (Heap.get?_none_of_le (Nat.le_refl _)) (by rw [Heap.size_push]; exact Nat.le_succ _) (fun i h st => by obtain ⟨o, e, _⟩ := st.1; exact ⟨o, e⟩) hlen ⟨⟨_, Heap.get?_push_size _ rfl, rfl, rfl⟩, hl.at fun o e => Heap.get?_push_of_some _ e⟩ (fun b hb => ?_) F N hcell hkind hx K ?_
  · rw [Heap.size_push]
    rcases List.mem_cons.mp hb with rfl | hb
    · exact Nat.lt_succ_self _
    · rw [List.mem_singleton.mp hb]; exact Nat.lt_succ_of_lt (Heap.lt_size hol)
  · intro D C h' tk ys c m' a0 o0 a1 o1 a2 o2 a3 o3 F' N' hD hC hCD hn' hr mk st
    have ne : ∀ r ∈ [(a0, o0), (a1, o1), (a2, o2), (a3, o3)], ∀ p ∈ news, @Ne Nat p.1 r.1 := fun r hr2 p hp q => by
      have e := (hr r hr2).1
      rw [show r.1 = p.1 from q.symm, (N p hp).1] at e; cases e
    obtain ⟨yl⟩ := ys
    refine post_eval F' N' hn' (fresh_in F hC).2 (fresh_in F hC).1 (fun p hp q => ?_) fun h₂ F₂ N₂ _ => k D h₂ tk yl c a0 o0 a1 o1 a2 o2 a3 o3 F₂ N₂ (fun p hp q => ?_) (ne (a0, o0) (by simp)) (ne (a1, o1) (by simp)) (ne (a2, o2) (by simp)) (ne (a3, o3) (by simp)) mk
    · rcases List.mem_cons.mp hp with rfl | hp
      · exact hCD q.symm
      · rcases List.mem_append.mp (show p ∈ [(a0, o0), (a1, o1), (a2, o2), (a3, o3)] ++ news from hp) with hp | hp
        · exact (hr p hp).2 q
        · rw [← q, (N p hp).1] at hC; cases hC
    · rw [show D = p.1 from q.symm, (N p hp).1] at hD; cases hD
end
end Mine.Internal
namespace Mine.Internal
noncomputable def EltOkR2 (prog : Program) (w : World) (A : Around) (h₀ : Heap) (news : List (Addr × Obj)) (env : Env) (scope : Scope) (cl : List (Str × Addr)) (x x₂ : Str) (elt : Expr) (P : Nat → Value → Value → Prop) (R : Value → Value → Obj → Prop) (s : Shared) : Prop :=
  ∀ (C : Addr) (i : Nat) (v v₂ : Value) (h : Heap) (g : Array GenState) (d : Drawn) (tk : Nat) (os : OsState) (m₃ : Str → Option Value), RowsOn → P i v v₂ → Fr h₀ C h m₃ → News h₀ C h news → m₃ x = some v → m₃ x₂ = some v₂ → (∀ b o, s.heap.get? b = some o → h.get? b = some o) →
    wpAny (model prog w) A (eval elt (compEnvC scope cl C env)) (RowPost (R v) v₂ ⟨h, g, d, tk, os⟩) (fun _ _ => False) ⟨h, g, d, tk, os⟩
noncomputable def RowsAre2 (P : Nat → Value → Value → Prop) (R : Value → Value → Obj → Prop) (n : Nat) (ys : Array Value) (rows : List (Addr × Obj)) : Prop :=
  ys.size = n ∧ ∀ (j : Nat) (y : Value), ys[j]? = some y → ∃ v v₂ a o, P j v v₂ ∧ y = .ref a ∧ (a, o) ∈ rows ∧ R v v₂ o
theorem RowsAre2.mono {P : Nat → Value → Value → Prop} {R : Value → Value → Obj → Prop} {n : Nat} {ys : Array Value} {rows rows' : List (Addr × Obj)} (x : RowsAre2 P R n ys rows) (h : ∀ p ∈ rows, p ∈ rows') : RowsAre2 P R n ys rows' :=
  ⟨x.1, fun j y e => let ⟨v, v₂, a, o, p, q, r, t⟩ := x.2 j y e; ⟨v, v₂, a, o, p, q, h _ r, t⟩⟩
inductive RowsP2 (pos : Pos) (R : Value → Value → Obj → Prop) : Prop
  | mk
section
variable {prog : Program} {w : World} {A : Around} {E : Value → Shared → Prop} {s : Shared} {env : Env} {h₀ : Heap} {L : Addr} {m : Str → Option Value} {news : List (Addr × Obj)}
end
namespace block_pairR_e
noncomputable def zzQ (prog : Program) (w : World) (A : Around) (E : Value → Shared → Prop) (s : Shared) (env : Env) (h₀ : Heap) (L : Addr) (m : Str → Option Value) (news : List (Addr × Obj)) (h₂ : Heap) (tk₂ : Nat) (elt : Expr) (iter : Expr) (x : Str) (x₂ : Str) (px : Pos) (px₂ : Pos) (tp : Pos) (tkk : Nat) (scope : Scope) (cl : List (Str × Addr)) (pos : Pos) (I : Addr) (fp : List Addr) (wr : List Addr) (n : Nat) (P : Nat → Value → Value → Prop) (St : Nat → Heap → Prop) (Mid : Nat → Addr → Heap → Prop) (R : Value → Value → Obj → Prop) (RR : Value → Addr → Result → Shared → Prop) : Prop := ∀ W : WalksT prog w A I fp wr n (fun i vals => ∃ v v₂, vals = #[v, v₂] ∧ P i v v₂) St Mid, ∀ hh : A.handled = none, ∀ hs : ∀ b o, s.heap.get? b = some o → h₂.get? b = some o, ∀ hwr : ∀ b ∈ wr, s.heap.get? b = none, ∀ hIo : ∀ i h, St i h → ∀ b ∈ wr, ∃ o, h.get? b = some o, ∀ hs1 : @LE.le Nat _ s.heap.objs.size h₂.objs.size, ∀ hn : n ≤ 4, ∀ hst : St 0 h₂, ∀ hfp : ∀ b ∈ fp, b < h₂.objs.size, ∀ F : Fr h₀ L s.heap m, ∀ N : News h₀ L s.heap news, ∀ hcell : ∀ y ∈ scope.names, y.2 ≠ .cell, ∀ hkind : scope.kind = .function, ∀ hx : scope.names.lookup x = some .local, ∀ hx₂ : scope.names.lookup x₂ = some .local, ∀ hxx : x ≠ x₂, ∀ K : EltOkR2 prog w A h₀ news env scope cl x x₂ elt (fun i v v₂ => i < n ∧ P i v v₂) R s, ∀ hRR : ∀ D C h' tk (ys : Array Value) c m' a0 o0 a1 o1 a2 o2 a3 o3, Fr h₀ L h' m → News h₀ L h' ((D, listOf ys c) :: (a0, o0) :: (a1, o1) :: (a2, o2) :: (a3, o3) :: news) → s.heap.get? D = none → s.heap.get? C = none → C ≠ D → h'.Ns C m' → (∀ p ∈ [(a0, o0), (a1, o1), (a2, o2), (a3, o3)], s.heap.get? p.1 = none ∧ p.1 ≠ C) → RowsAre2 P R n ys [(a0, o0), (a1, o1), (a2, o2), (a3, o3)] → (∀ b o, s.heap.get? b = some o → h'.get? b = some o) → RR (.ref D) C (.ok .next) { s with heap := h', toks := tk }, wpAny (model prog w) A (newList []) (fun acc s₃ => wpAny (model prog w) A (newFunctionEnv scope env.globals cl [] env.qual none .none (some env)) (fun cenv s₄ =>
      codeAny (model prog w) A (.compStart (.ListComp elt [⟨.Tuple [.Name x px, .Name x₂ px₂] tkk tp, iter, [], 0⟩] scope pos) 0 (.ref I) acc { cenv with scope := relabel scope env }) (RR acc cenv.locals) s₄) E s₃) E { s with heap := h₂, toks := tk₂ }
noncomputable abbrev zzT : Type := Program × World × Around × (Value → Shared → Prop) × Shared × Env × Heap × Addr × (Str → Option Value) × (List (Addr × Obj)) × Heap × Nat × Expr × Expr × Str × Str × Pos × Pos × Pos × Nat × Scope × (List (Str × Addr)) × Pos × Addr × (List Addr) × (List Addr) × Nat × (Nat → Value → Value → Prop) × (Nat → Heap → Prop) × (Nat → Addr → Heap → Prop) × (Value → Value → Obj → Prop) × (Value → Addr → Result → Shared → Prop)
noncomputable def zzS (z : zzT) : Prop := zzQ z.1 z.2.1 z.2.2.1 z.2.2.2.1 z.2.2.2.2.1 z.2.2.2.2.2.1 z.2.2.2.2.2.2.1 z.2.2.2.2.2.2.2.1 z.2.2.2.2.2.2.2.2.1 z.2.2.2.2.2.2.2.2.2.1 z.2.2.2.2.2.2.2.2.2.2.1 z.2.2.2.2.2.2.2.2.2.2.2.1 z.2.2.2.2.2.2.2.2.2.2.2.2.1 z.2.2.2.2.2.2.2.2.2.2.2.2.2.1 z.2.2.2.2.2.2.2.2.2.2.2.2.2.2.1 z.2.2.2.2.2.2.2.2.2.2.2.2.2.2.2.1 z.2.2.2.2.2.2.2.2.2.2.2.2.2.2.2.2.1 z.2.2.2.2.2.2.2.2.2.2.2.2.2.2.2.2.2.1 z.2.2.2.2.2.2.2.2.2.2.2.2.2.2.2.2.2.2.1 z.2.2.2.2.2.2.2.2.2.2.2.2.2.2.2.2.2.2.2.1 z.2.2.2.2.2.2.2.2.2.2.2.2.2.2.2.2.2.2.2.2.1 z.2.2.2.2.2.2.2.2.2.2.2.2.2.2.2.2.2.2.2.2.2.1 z.2.2.2.2.2.2.2.2.2.2.2.2.2.2.2.2.2.2.2.2.2.2.1 z.2.2.2.2.2.2.2.2.2.2.2.2.2.2.2.2.2.2.2.2.2.2.2.1 z.2.2.2.2.2.2.2.2.2.2.2.2.2.2.2.2.2.2.2.2.2.2.2.2.1 z.2.2.2.2.2.2.2.2.2.2.2.2.2.2.2.2.2.2.2.2.2.2.2.2.2.1 z.2.2.2.2.2.2.2.2.2.2.2.2.2.2.2.2.2.2.2.2.2.2.2.2.2.2.1 z.2.2.2.2.2.2.2.2.2.2.2.2.2.2.2.2.2.2.2.2.2.2.2.2.2.2.2.1 z.2.2.2.2.2.2.2.2.2.2.2.2.2.2.2.2.2.2.2.2.2.2.2.2.2.2.2.2.1 z.2.2.2.2.2.2.2.2.2.2.2.2.2.2.2.2.2.2.2.2.2.2.2.2.2.2.2.2.2.1 z.2.2.2.2.2.2.2.2.2.2.2.2.2.2.2.2.2.2.2.2.2.2.2.2.2.2.2.2.2.2.1 z.2.2.2.2.2.2.2.2.2.2.2.2.2.2.2.2.2.2.2.2.2.2.2.2.2.2.2.2.2.2.2
noncomputable def zzc : zzT := @Classical.epsilon zzT ⟨(cN, zw, zA, cN, zs, cN, cN, cN, cN, cN, cN, cN, cN, cN, cN, cN, cN, cN, cN, cN, cN, cN, cN, cN, cN, cN, cN, cN, cN, cN, cN, cN)⟩ fun z => ¬ zzS z
theorem zzcore : zzS zzc := by
  show zzQ _ _ _ _ _ _ _ _ _ _ _ _ _ _ _ _ _ _ _ _ _ _ _ _ _ _ _ _ _ _ _ _
  generalize zzc.1 = prog; generalize zzc.2.1 = w; generalize zzc.2.2.1 = A; generalize zzc.2.2.2.1 = E; generalize zzc.2.2.2.2.1 = s; generalize zzc.2.2.2.2.2.1 = env; generalize zzc.2.2.2.2.2.2.1 = h₀; generalize zzc.2.2.2.2.2.2.2.1 = L; generalize zzc.2.2.2.2.2.2.2.2.1 = m; generalize zzc.2.2.2.2.2.2.2.2.2.1 = news; generalize zzc.2.2.2.2.2.2.2.2.2.2.1 = h₂; generalize zzc.2.2.2.2.2.2.2.2.2.2.2.1 = tk₂; generalize zzc.2.2.2.2.2.2.2.2.2.2.2.2.1 = elt; generalize zzc.2.2.2.2.2.2.2.2.2.2.2.2.2.1 = iter; generalize zzc.2.2.2.2.2.2.2.2.2.2.2.2.2.2.1 = x; generalize zzc.2.2.2.2.2.2.2.2.2.2.2.2.2.2.2.1 = x₂; generalize zzc.2.2.2.2.2.2.2.2.2.2.2.2.2.2.2.2.1 = px; generalize zzc.2.2.2.2.2.2.2.2.2.2.2.2.2.2.2.2.2.1 = px₂; generalize zzc.2.2.2.2.2.2.2.2.2.2.2.2.2.2.2.2.2.2.1 = tp; generalize zzc.2.2.2.2.2.2.2.2.2.2.2.2.2.2.2.2.2.2.2.1 = tkk; generalize zzc.2.2.2.2.2.2.2.2.2.2.2.2.2.2.2.2.2.2.2.2.1 = scope; generalize zzc.2.2.2.2.2.2.2.2.2.2.2.2.2.2.2.2.2.2.2.2.2.1 = cl; generalize zzc.2.2.2.2.2.2.2.2.2.2.2.2.2.2.2.2.2.2.2.2.2.2.1 = pos; generalize zzc.2.2.2.2.2.2.2.2.2.2.2.2.2.2.2.2.2.2.2.2.2.2.2.1 = I; generalize zzc.2.2.2.2.2.2.2.2.2.2.2.2.2.2.2.2.2.2.2.2.2.2.2.2.1 = fp; generalize zzc.2.2.2.2.2.2.2.2.2.2.2.2.2.2.2.2.2.2.2.2.2.2.2.2.2.1 = wr; generalize zzc.2.2.2.2.2.2.2.2.2.2.2.2.2.2.2.2.2.2.2.2.2.2.2.2.2.2.1 = n; generalize zzc.2.2.2.2.2.2.2.2.2.2.2.2.2.2.2.2.2.2.2.2.2.2.2.2.2.2.2.1 = P; generalize zzc.2.2.2.2.2.2.2.2.2.2.2.2.2.2.2.2.2.2.2.2.2.2.2.2.2.2.2.2.1 = St; generalize zzc.2.2.2.2.2.2.2.2.2.2.2.2.2.2.2.2.2.2.2.2.2.2.2.2.2.2.2.2.2.1 = Mid; generalize zzc.2.2.2.2.2.2.2.2.2.2.2.2.2.2.2.2.2.2.2.2.2.2.2.2.2.2.2.2.2.2.1 = R; generalize zzc.2.2.2.2.2.2.2.2.2.2.2.2.2.2.2.2.2.2.2.2.2.2.2.2.2.2.2.2.2.2.2 = RR
  intro W hh hs hwr hIo hs1 hn hst hfp F N hcell hkind hx hx₂ hxx K hRR
  refine wpAny_newObj_type (wpAny_newFunctionEnv hcell (by intro y hy; simp at hy) (fun h₁ hns₁ hsb₁ => ?_) hkind)
  dsimp only at hns₁ hsb₁ ⊢
  generalize hH2 : h₂.push { cls := .type "list", dict := none, data := .seq ([] : List Value).toArray } = H2 at hns₁ hsb₁ ⊢
  have hC : @Eq Nat H2.objs.size (h₂.objs.size + 1) := by rw [← hH2, Heap.size_push]
  have hDC : h₂.objs.size ≠ H2.objs.size := Nat.ne_of_lt (by lia)
  have old : ∀ b o, h₂.get? b = some o → h₁.get? b = some o := fun b o e => hsb₁.extBut b o (Nat.ne_of_lt (by have : @LT.lt Nat _ b h₂.objs.size := Heap.lt_size e; lia)) (Heap.get?_push_of_some _ (hH2 ▸ Heap.get?_push_of_some _ e))
  have hacc : h₁.PlainList h₂.objs.size #[] := ⟨_, hsb₁.extBut _ _ hDC (Heap.get?_push_of_some _ (hH2 ▸ Heap.get?_push_size _ rfl))⟩
  have hCf : ∀ b ∈ fp, b ≠ H2.objs.size := fun b hb => Nat.ne_of_lt (by have : @LT.lt Nat _ b h₂.objs.size := hfp b hb; lia)
  have hDf : ∀ b ∈ fp, b ≠ h₂.objs.size := fun b hb => Nat.ne_of_lt (hfp b hb)
  have hCwr : H2.objs.size ∉ wr := fun hm => hCf _ (W.sub _ hm) rfl
  have hDwr : h₂.objs.size ∉ wr := fun hm => hDf _ (W.sub _ hm) rfl
  have old2 : ∀ b o, s.heap.get? b = some o → b ∉ wr ∧ b ≠ H2.objs.size ∧ b ≠ h₂.objs.size := fun b o e => by
    have hb : @LT.lt Nat _ b h₂.objs.size := Heap.lt_size (hs b o e)
    exact ⟨fun hm => (by rw [hwr b hm] at e; cases e), Nat.ne_of_lt (by lia), Nat.ne_of_lt hb⟩
  have loop : ∀ s₃ : Shared, (∃ tk, s₃ = { s with heap := h₁, toks := tk }) →
      codeAny (model prog w) A (.compLoop (.ListComp elt [⟨.Tuple [.Name x px, .Name x₂ px₂] tkk tp, iter, [], 0⟩] scope pos) 0 (.ref I) (.ref h₂.objs.size) (compEnvC scope cl H2.objs.size env))
        (RR (.ref h₂.objs.size) H2.objs.size) s₃ := by
    rintro s₃ ⟨tk₀, rfl⟩
    refine LCp.codeAny_compLoop_pair
      (fun n' s' => ∃ h' tk i ys m' rows, s' = { s with heap := h', toks := tk } ∧ i ≤ n ∧ n' = n + 1 - i ∧ St i h' ∧ h'.Ns H2.objs.size m' ∧ h'.PlainList h₂.objs.size ys ∧ (∀ b o, s.heap.get? b = some o → h'.get? b = some o) ∧
        RowsAre2 P R i ys rows ∧ rows.length = i ∧ (∀ p ∈ rows, h'.get? p.1 = some p.2 ∧ s.heap.get? p.1 = none ∧ p.1 ∉ wr ∧ p.1 ≠ H2.objs.size ∧ p.1 ≠ h₂.objs.size)) ?_ (n + 1)
      ⟨h₁, _, 0, #[], _, [], rfl, Nat.zero_le _, rfl, W.frame _ _ _ hst fun b _ o e => old b o e, hns₁, hacc, fun b o e => old b o (hs b o e), ⟨rfl, fun j y e => by simp at e⟩, rfl, fun p hp => nomatch hp⟩
    rintro n' s' ⟨h', tk, i, ys, m', rows, rfl, hi, rfl, hst', hn', hpl, hkp, hG, hrl, hrows⟩
    have hyl := hG.1
    by_cases hlt : i < n
    · refine W.item i _ _ _ hlt hst' fun T vals h₃ tk₃ hPv _ hT hMid hk₃ => ?_
      obtain ⟨v, v₂, rfl, hP⟩ := hPv
      refine W.go _ _ _ i T _ _ _ hMid fun h₄ hst₄ hk₄ => ?_
      obtain ⟨oT, hoT, hcT, nT, hdT⟩ := hT
      have ht : IsTup h₄ T #[v, v₂] := ⟨oT, hk₄ _ _ (W.apart _ _ _ hMid) hoT, hcT, nT, hdT⟩
      refine assign_Tuple_tuple hh ht rfl rfl fun h₅ he => ?_
      have he' : ∀ b o, h₄.get? b = some o → h₅.get? b = some o := fun b o e => he b o (Nat.ne_of_lt (Heap.lt_size e)) e
      have k45 : ∀ b o, b ∉ wr → h'.get? b = some o → h₅.get? b = some o := fun b o hb e => he' b o (hk₄ b o hb (hk₃ b o hb e))
      refine assignInOrder_cons (wpAny_assign_Name (wpAny_storeName_local (lookup_relabel_local hx) (hn'.at' fun o e => k45 _ o hCwr e) (fun h₆ hn₆ hs₆ => ?_) (by simp [compEnvC, relabel, hkind])))
      refine assignInOrder_cons (wpAny_assign_Name (wpAny_storeName_local (lookup_relabel_local hx₂) hn₆ (fun h₇ hn₇ hs₇ => ?_) (by simp [compEnvC, relabel, hkind])))
      refine assignInOrder_nil ?_
      have k7 : ∀ b o, b ≠ H2.objs.size → h₅.get? b = some o → h₇.get? b = some o := fun b o hb e => hs₇.extBut b o hb (hs₆.extBut b o hb e)
      have ks : ∀ b o, s.heap.get? b = some o → h₇.get? b = some o := fun b o e => k7 b o (old2 b o e).2.1 (k45 b o (old2 b o e).1 (hkp b o e))
      have hL : @LT.lt Nat _ L s.heap.objs.size := F.ns.lt
      have F₇ : Fr h₀ H2.objs.size h₇ _ := ⟨hn₇, fun b o e => ks b o (F.keep b o e), Nat.le_trans F.above (by show @LE.le Nat _ L H2.objs.size; lia)⟩
      have N₇ : News h₀ H2.objs.size h₇ news := fun p hp => ⟨ks _ _ (N p hp).1, (old2 _ _ (N p hp).1).2.1, (N p hp).2.2⟩
      have hst₇ : St (i + 1) h₇ := W.frame _ _ _ hst₄ fun b hb o e => k7 b o (hCf b hb) (he' b o e)
      obtain ⟨oC, _, _, hoC, _⟩ := hn₇
      obtain ⟨cap, hpl⟩ := hpl
      have hD₇ : h₇.get? h₂.objs.size = some (listOf ys cap) := k7 _ _ hDC (k45 _ _ hDwr hpl)
      refine wpAny_mono (K H2.objs.size i v v₂ h₇ s.gens s.drawn _ s.os _ .mk ⟨hlt, hP⟩ F₇ N₇ (by simp [hxx]) (by simp) ks) (fun yv s₈ h₈ => ?_) fun _ _ f => f.elim
      obtain ⟨a, o, h₈, tk₈, rfl, rfl, hna, hao, hRo, hk₈⟩ := h₈
      have hna' : h₇.get? a = none := hna
      have zD : h₈.get? h₂.objs.size = some (listOf ys cap) := hk₈ _ _ hD₇
      refine append_at (hsz := by rw [PySem.sizeLine_eq]; lia) zD fun h₉ hs₉ hD₉ => ?_
      have k9 : ∀ b o, b ≠ h₂.objs.size → h₇.get? b = some o → h₉.get? b = some o := fun b o hb e => hs₉.extBut b o hb (hk₈ b o e)
      have haD : a ≠ h₂.objs.size := fun q => by rw [q, hD₇] at hna'; cases hna'
      refine ⟨n + 1 - (i + 1), by lia, h₉, tk₈, i + 1, ys.push (.ref a), _, (a, o) :: rows, rfl, hlt, rfl, W.frame _ _ _ hst₇ fun b hb o e => k9 b o (hDf b hb) e, F₇.ns.at' fun o e => k9 _ o (Ne.symm hDC) e, ⟨_, hD₉⟩, fun b o e => k9 b o (old2 b o e).2.2 (ks b o e), ⟨by simp [hyl], fun j y e => ?_⟩, by simp [hrl], fun p hp => ?_⟩
      · rw [Array.getElem?_push] at e
        split at e
        · rename_i hj
          have hj2 : j = i := by lia
          subst hj2
          cases e
          exact ⟨v, v₂, a, o, hP, rfl, List.mem_cons_self, hRo⟩
        · obtain ⟨v', v'', a', o', p1, p2, p3, p4⟩ := hG.2 j y e
          exact ⟨v', v'', a', o', p1, p2, List.mem_cons_of_mem _ p3, p4⟩
      · rcases List.mem_cons.mp hp with rfl | hp
        · refine ⟨hs₉.extBut _ _ haD hao, ?_, fun q => ?_, fun q => ?_, haD⟩
          · cases e : s.heap.get? a with
            | none => rfl
            | some o => rw [ks _ _ e] at hna'; cases hna'
          · obtain ⟨ow, how⟩ := hIo _ _ hst₇ a q
            rw [how] at hna'; cases hna'
          · rw [show a = H2.objs.size from q, show h₇.get? H2.objs.size = some oC from hoC] at hna'; cases hna'
        · obtain ⟨r1, r2, r3, r4, r5⟩ := hrows p hp
          exact ⟨k9 _ _ r5 (k7 _ _ r4 (k45 _ _ r3 r1)), r2, r3, r4, r5⟩
    · have hin : i = n := by lia
      subst hin
      refine W.done _ _ _ hst' fun h₃ tk₃ hk₃ => ?_
      obtain ⟨cap, hpl⟩ := hpl
      have ks : ∀ b o, s.heap.get? b = some o → h₃.get? b = some o := fun b o e => hk₃ b o (old2 b o e).1 (hkp b o e)
      have hDn : s.heap.get? h₂.objs.size = none := Heap.get?_none_of_le hs1
      have hCn : s.heap.get? H2.objs.size = none := Heap.get?_none_of_le (by show @LE.le Nat _ s.heap.objs.size H2.objs.size; lia)
      obtain ⟨a0, o0, a1, o1, a2, o2, a3, o3, hr1, hr2⟩ := rows_pad (h₂.objs.size, listOf ys cap) rows (by lia)
      have hall : ∀ p ∈ [(a0, o0), (a1, o1), (a2, o2), (a3, o3)], (h₃.get? p.1 = some p.2 ∧ p.1 ≠ L ∧ h₀.get? p.1 = none) ∧ s.heap.get? p.1 = none ∧ p.1 ≠ H2.objs.size := fun p hp => by
        rcases hr2 p hp with hp | rfl
        · obtain ⟨r1, r2, r3, r4, r5⟩ := hrows p hp
          exact ⟨⟨hk₃ _ _ r3 r1, fresh_in F r2⟩, r2, r4⟩
        · exact ⟨⟨hk₃ _ _ hDwr hpl, fresh_in F hDn⟩, hDn, hDC⟩
      refine hRR _ _ h₃ _ ys cap m' a0 o0 a1 o1 a2 o2 a3 o3 (F.keeps ks) (fun p hp => ?_) hDn hCn (Ne.symm hDC) (hn'.at' fun o e => hk₃ _ o hCwr e) (fun p hp => (hall p hp).2) (hG.mono hr1) ks
      rcases List.mem_cons.mp hp with rfl | hp
      · exact ⟨hk₃ _ _ hDwr hpl, (fresh_in F hDn).1, (fresh_in F hDn).2⟩
      · rcases List.mem_append.mp (show p ∈ [(a0, o0), (a1, o1), (a2, o2), (a3, o3)] ++ news from hp) with hp | hp
        · exact (hall p hp).1
        · exact ⟨ks _ _ (N p hp).1, (N p hp).2⟩
  exact codeAny_compStart_list (loop _ ⟨_, rfl⟩) (W.self 0 _ _ _ (W.frame _ _ _ hst fun b _ o e => old b o e) (loop _ ⟨_, rfl⟩))
end block_pairR_e
theorem block_pairR {prog : Program} {w : World} {A : Around} {E : Value → Shared → Prop} {s : Shared} {env : Env} {h₀ : Heap} {L : Addr} {m : Str → Option Value} {news : List (Addr × Obj)} {h₂ : Heap} {tk₂ : Nat} {elt iter : Expr} {x x₂ : Str} {px px₂ tp : Pos} {tkk : Nat} {scope : Scope} {cl : List (Str × Addr)} {pos : Pos} {I : Addr} {fp wr : List Addr} {n : Nat} {P : Nat → Value → Value → Prop} {St : Nat → Heap → Prop} {Mid : Nat → Addr → Heap → Prop} {R : Value → Value → Obj → Prop} {RR : Value → Addr → Result → Shared → Prop}
    (W : WalksT prog w A I fp wr n (fun i vals => ∃ v v₂, vals = #[v, v₂] ∧ P i v v₂) St Mid) (hh : A.handled = none) (hs : ∀ b o, s.heap.get? b = some o → h₂.get? b = some o) (hwr : ∀ b ∈ wr, s.heap.get? b = none) (hIo : ∀ i h, St i h → ∀ b ∈ wr, ∃ o, h.get? b = some o) (hs1 : @LE.le Nat _ s.heap.objs.size h₂.objs.size) (hn : n ≤ 4) (hst : St 0 h₂) (hfp : ∀ b ∈ fp, b < h₂.objs.size) (F : Fr h₀ L s.heap m) (N : News h₀ L s.heap news)
    (hcell : ∀ y ∈ scope.names, y.2 ≠ .cell) (hkind : scope.kind = .function) (hx : scope.names.lookup x = some .local) (hx₂ : scope.names.lookup x₂ = some .local) (hxx : x ≠ x₂)
    (K : EltOkR2 prog w A h₀ news env scope cl x x₂ elt (fun i v v₂ => i < n ∧ P i v v₂) R s)
    (hRR : ∀ D C h' tk (ys : Array Value) c m' a0 o0 a1 o1 a2 o2 a3 o3, Fr h₀ L h' m → News h₀ L h' ((D, listOf ys c) :: (a0, o0) :: (a1, o1) :: (a2, o2) :: (a3, o3) :: news) → s.heap.get? D = none → s.heap.get? C = none → C ≠ D → h'.Ns C m' → (∀ p ∈ [(a0, o0), (a1, o1), (a2, o2), (a3, o3)], s.heap.get? p.1 = none ∧ p.1 ≠ C) → RowsAre2 P R n ys [(a0, o0), (a1, o1), (a2, o2), (a3, o3)] → (∀ b o, s.heap.get? b = some o → h'.get? b = some o) → RR (.ref D) C (.ok .next) { s with heap := h', toks := tk }) : wpAny (model prog w) A (newList []) (fun acc s₃ => wpAny (model prog w) A (newFunctionEnv scope env.globals cl [] env.qual none .none (some env)) (fun cenv s₄ =>
      codeAny (model prog w) A (.compStart (.ListComp elt [⟨.Tuple [.Name x px, .Name x₂ px₂] tkk tp, iter, [], 0⟩] scope pos) 0 (.ref I) acc { cenv with scope := relabel scope env }) (RR acc cenv.locals) s₄) E s₃) E { s with heap := h₂, toks := tk₂ } := epsU (P := block_pairR_e.zzS) (by with_unfolding_all exact block_pairR_e.zzcore) (prog, w, A, E, s, env, h₀, L, m, news, h₂, tk₂, elt, iter, x, x₂, px, px₂, tp, tkk, scope, cl, pos, I, fp, wr, n, P, St, Mid, R, RR) W hh hs hwr hIo hs1 hn hst hfp F N hcell hkind hx hx₂ hxx K hRR
section
variable {prog : Program} {w : World} {A : Around} {E : Value → Shared → Prop} {s : Shared} {env : Env} {h₀ : Heap} {L : Addr} {m : Str → Option Value} {news : List (Addr × Obj)}
end
namespace call_zip_comp_e
noncomputable def zzQ (prog : Program) (w : World) (A : Around) (E : Value → Shared → Prop) (s : Shared) (env : Env) (h₀ : Heap) (m : Str → Option Value) (news : List (Addr × Obj)) (elt : Expr) (iter : Expr) (x : Str) (x₂ : Str) (y : Str) (px : Pos) (px₂ : Pos) (tp : Pos) (py : Pos) (tkk : Nat) (scope : Scope) (cl : List (Str × Addr)) (pos : Pos) (l : Addr) (l' : Addr) (vs : List Value) (us : List Value) (R : Value → Value → Obj → Prop) (Q : Flow → Shared → Prop) : Prop := ∀ x_0 : RowsP2 pos R, ∀ hh : A.handled = none, ∀ hl : s.heap.IsList l vs.toArray, ∀ hl' : s.heap.IsList l' us.toArray, ∀ hlen : vs.length ≤ 4, ∀ F : Fr h₀ env.locals s.heap m, ∀ N : News h₀ env.locals s.heap news, ∀ hcell : ∀ y ∈ scope.names, y.2 ≠ .cell, ∀ hkind : scope.kind = .function, ∀ hx : scope.names.lookup x = some .local, ∀ hx₂ : scope.names.lookup x₂ = some .local, ∀ hxx : x ≠ x₂, ∀ hy : env.kindOf y = some .local, ∀ hp : (env.scope.kind == .class || (env.scope.kind == .module && env.locals != env.globals)) = false, ∀ K : EltOkR2 prog w A h₀ news env scope cl x x₂ elt (fun i v v₂ => i < min vs.length us.length ∧ vs[i]? = some v ∧ us[i]? = some v₂) R s, ∀ k : ∀ D h' tk (ys : List Value) c a0 o0 a1 o1 a2 o2 a3 o3, Fr h₀ env.locals h' (fun z => if z = y then some (.ref D) else m z) → News h₀ env.locals h' ((D, listOf ys.toArray c) :: (a0, o0) :: (a1, o1) :: (a2, o2) :: (a3, o3) :: news) → (∀ p ∈ news, @Ne Nat p.1 D) → (∀ p ∈ news, @Ne Nat p.1 a0) → (∀ p ∈ news, @Ne Nat p.1 a1) → (∀ p ∈ news, @Ne Nat p.1 a2) → (∀ p ∈ news, @Ne Nat p.1 a3) → RowsAre2 (fun i v v₂ => vs[i]? = some v ∧ us[i]? = some v₂) R (min vs.length us.length) ys.toArray [(a0, o0), (a1, o1), (a2, o2), (a3, o3)] → Q .next { s with heap := h', toks := tk }, wpAny (model prog w) A (call (.type "zip") [.ref l, .ref l']) (fun xv s₁ => wpAny (model prog w) A (pyIter xv) (fun it s₂ => BlkA prog w A env (.Tuple [.Name x px, .Name x₂ px₂] tkk tp) elt iter [] scope cl pos E y py Q it s₂) E s₁) E s
noncomputable abbrev zzT : Type := Program × World × Around × (Value → Shared → Prop) × Shared × Env × Heap × (Str → Option Value) × (List (Addr × Obj)) × Expr × Expr × Str × Str × Str × Pos × Pos × Pos × Pos × Nat × Scope × (List (Str × Addr)) × Pos × Addr × Addr × (List Value) × (List Value) × (Value → Value → Obj → Prop) × (Flow → Shared → Prop)
noncomputable def zzS (z : zzT) : Prop := zzQ z.1 z.2.1 z.2.2.1 z.2.2.2.1 z.2.2.2.2.1 z.2.2.2.2.2.1 z.2.2.2.2.2.2.1 z.2.2.2.2.2.2.2.1 z.2.2.2.2.2.2.2.2.1 z.2.2.2.2.2.2.2.2.2.1 z.2.2.2.2.2.2.2.2.2.2.1 z.2.2.2.2.2.2.2.2.2.2.2.1 z.2.2.2.2.2.2.2.2.2.2.2.2.1 z.2.2.2.2.2.2.2.2.2.2.2.2.2.1 z.2.2.2.2.2.2.2.2.2.2.2.2.2.2.1 z.2.2.2.2.2.2.2.2.2.2.2.2.2.2.2.1 z.2.2.2.2.2.2.2.2.2.2.2.2.2.2.2.2.1 z.2.2.2.2.2.2.2.2.2.2.2.2.2.2.2.2.2.1 z.2.2.2.2.2.2.2.2.2.2.2.2.2.2.2.2.2.2.1 z.2.2.2.2.2.2.2.2.2.2.2.2.2.2.2.2.2.2.2.1 z.2.2.2.2.2.2.2.2.2.2.2.2.2.2.2.2.2.2.2.2.1 z.2.2.2.2.2.2.2.2.2.2.2.2.2.2.2.2.2.2.2.2.2.1 z.2.2.2.2.2.2.2.2.2.2.2.2.2.2.2.2.2.2.2.2.2.2.1 z.2.2.2.2.2.2.2.2.2.2.2.2.2.2.2.2.2.2.2.2.2.2.2.1 z.2.2.2.2.2.2.2.2.2.2.2.2.2.2.2.2.2.2.2.2.2.2.2.2.1 z.2.2.2.2.2.2.2.2.2.2.2.2.2.2.2.2.2.2.2.2.2.2.2.2.2.1 z.2.2.2.2.2.2.2.2.2.2.2.2.2.2.2.2.2.2.2.2.2.2.2.2.2.2.1 z.2.2.2.2.2.2.2.2.2.2.2.2.2.2.2.2.2.2.2.2.2.2.2.2.2.2.2
noncomputable def zzc : zzT := @Classical.epsilon zzT ⟨(cN, zw, zA, cN, zs, cN, cN, cN, cN, cN, cN, cN, cN, cN, cN, cN, cN, cN, cN, cN, cN, cN, cN, cN, cN, cN, cN, cN)⟩ fun z => ¬ zzS z
theorem zzcore : zzS zzc := by
  show zzQ _ _ _ _ _ _ _ _ _ _ _ _ _ _ _ _ _ _ _ _ _ _ _ _ _ _ _ _
  generalize zzc.1 = prog; generalize zzc.2.1 = w; generalize zzc.2.2.1 = A; generalize zzc.2.2.2.1 = E; generalize zzc.2.2.2.2.1 = s; generalize zzc.2.2.2.2.2.1 = env; generalize zzc.2.2.2.2.2.2.1 = h₀; generalize zzc.2.2.2.2.2.2.2.1 = m; generalize zzc.2.2.2.2.2.2.2.2.1 = news; generalize zzc.2.2.2.2.2.2.2.2.2.1 = elt; generalize zzc.2.2.2.2.2.2.2.2.2.2.1 = iter; generalize zzc.2.2.2.2.2.2.2.2.2.2.2.1 = x; generalize zzc.2.2.2.2.2.2.2.2.2.2.2.2.1 = x₂; generalize zzc.2.2.2.2.2.2.2.2.2.2.2.2.2.1 = y; generalize zzc.2.2.2.2.2.2.2.2.2.2.2.2.2.2.1 = px; generalize zzc.2.2.2.2.2.2.2.2.2.2.2.2.2.2.2.1 = px₂; generalize zzc.2.2.2.2.2.2.2.2.2.2.2.2.2.2.2.2.1 = tp; generalize zzc.2.2.2.2.2.2.2.2.2.2.2.2.2.2.2.2.2.1 = py; generalize zzc.2.2.2.2.2.2.2.2.2.2.2.2.2.2.2.2.2.2.1 = tkk; generalize zzc.2.2.2.2.2.2.2.2.2.2.2.2.2.2.2.2.2.2.2.1 = scope; generalize zzc.2.2.2.2.2.2.2.2.2.2.2.2.2.2.2.2.2.2.2.2.1 = cl; generalize zzc.2.2.2.2.2.2.2.2.2.2.2.2.2.2.2.2.2.2.2.2.2.1 = pos; generalize zzc.2.2.2.2.2.2.2.2.2.2.2.2.2.2.2.2.2.2.2.2.2.2.1 = l; generalize zzc.2.2.2.2.2.2.2.2.2.2.2.2.2.2.2.2.2.2.2.2.2.2.2.1 = l'; generalize zzc.2.2.2.2.2.2.2.2.2.2.2.2.2.2.2.2.2.2.2.2.2.2.2.2.1 = vs; generalize zzc.2.2.2.2.2.2.2.2.2.2.2.2.2.2.2.2.2.2.2.2.2.2.2.2.2.1 = us; generalize zzc.2.2.2.2.2.2.2.2.2.2.2.2.2.2.2.2.2.2.2.2.2.2.2.2.2.2.1 = R; generalize zzc.2.2.2.2.2.2.2.2.2.2.2.2.2.2.2.2.2.2.2.2.2.2.2.2.2.2.2 = Q
  intro _ hh hl hl' hlen F N hcell hkind hx hx₂ hxx hy hp K k
  obtain ⟨ol, hol, _⟩ := id hl
  obtain ⟨ol', hol', _⟩ := id hl'
  have hlt : @LT.lt Nat _ l s.heap.objs.size := Heap.lt_size hol
  have hlt' : @LT.lt Nat _ l' s.heap.objs.size := Heap.lt_size hol'
  generalize hZ : s.heap.objs.size = Z at hlt hlt'
  refine call_zip_2 hl hl' fun h' hz hTI hTO h1 h2 hsz hk => ?_
  rw [hZ] at hz hTI hTO h1 h2 hsz
  rw [hZ]
  have D : ZipApart (Z + 4) (Z + 2) (Z + 3) Z (Z + 1) l l' := by
    constructor <;> (first | (show @Ne Nat _ _; lia))
  have W := WalksT.zip2 (prog := prog) (w := w) (A := A) hh (Z + 4) (Z + 2) (Z + 3) Z (Z + 1) l l' D vs.toArray us.toArray
  have e1 : min vs.toArray.size us.toArray.size = min vs.length us.length := by simp
  rw [e1] at W
  have W' : WalksT prog w A (Z + 4) [Z + 4, Z + 2, Z + 3, Z, Z + 1, l, l'] [Z + 4, Z + 3, Z, Z + 1] (min vs.length us.length)
      (fun i vals => ∃ v v₂, vals = #[v, v₂] ∧ (vs[i]? = some v ∧ us[i]? = some v₂)) _ _ :=
    { W with item := fun i s Q E hi st hQ => W.item i s Q E hi st fun T vals h' tk hp => hQ T vals h' tk (by
        obtain ⟨a, b, e1, e2, e3⟩ := hp
        exact ⟨a, b, e3, by simpa using e1, by simpa using e2⟩) }
  refine wpAny_pyIter_zip hz ?_
  have hsmall : ∀ b, b ∈ [Z + 4, Z + 3, Z, Z + 1] → s.heap.get? b = none := fun b hb => by
    refine Heap.get?_none_of_le ?_
    rw [hZ]
    show @LE.le Nat _ Z b
    simp only [List.mem_cons, List.not_mem_nil, or_false] at hb
    rcases hb with rfl | rfl | rfl | rfl <;> lia
  refine block_pairR (s := s) (tk₂ := s.toks) (RR := fun acc C => compPost (model prog w) A E (some (assign (.Name y py) env)) (fun _ s' => Q .next s') acc C) W' hh hk hsmall (fun i h st b hb => ?_) (by rw [hZ]; lia) (by lia) ⟨hz, hTI, ⟨_, _, hTO⟩, h1, h2, hl.at fun o e => hk _ o e, hl'.at fun o e => hk _ o e⟩ (fun b hb => ?_) F N hcell hkind hx hx₂ hxx K ?_
  · obtain ⟨a1, a2, ⟨_, _, a3⟩, a4, a5, _⟩ := st
    simp only [List.mem_cons, List.not_mem_nil, or_false] at hb
    rcases hb with rfl | rfl | rfl | rfl
    · exact ⟨_, a1⟩
    · exact ⟨_, a3⟩
    · obtain ⟨o, e, _⟩ := a4; exact ⟨o, e⟩
    · obtain ⟨o, e, _⟩ := a5; exact ⟨o, e⟩
  · show @LT.lt Nat _ b h'.objs.size
    rw [hsz]
    simp only [List.mem_cons, List.not_mem_nil, or_false] at hb
    rcases hb with rfl | rfl | rfl | rfl | rfl | rfl | rfl <;> lia
  · intro D C h' tk ys c m' a0 o0 a1 o1 a2 o2 a3 o3 F' N' hD hC hCD hn' hr mk st
    have ne : ∀ r ∈ [(a0, o0), (a1, o1), (a2, o2), (a3, o3)], ∀ p ∈ news, @Ne Nat p.1 r.1 := fun r hr2 p hp q => by
      have e := (hr r hr2).1
      rw [show r.1 = p.1 from q.symm, (N p hp).1] at e; cases e
    obtain ⟨yl⟩ := ys
    refine post_assign F' N' hn' (fresh_in F hC).2 (fresh_in F hC).1 (fun p hp q => ?_) hy hp fun h₂ tk₂ F₂ N₂ _ => k D h₂ tk₂ yl c a0 o0 a1 o1 a2 o2 a3 o3 F₂ N₂ (fun p hp q => ?_) (ne (a0, o0) (by simp)) (ne (a1, o1) (by simp)) (ne (a2, o2) (by simp)) (ne (a3, o3) (by simp)) mk
    · rcases List.mem_cons.mp hp with rfl | hp
      · exact hCD q.symm
      · rcases List.mem_append.mp (show p ∈ [(a0, o0), (a1, o1), (a2, o2), (a3, o3)] ++ news from hp) with hp | hp
        · exact (hr p hp).2 q
        · rw [← q, (N p hp).1] at hC; cases hC
    · rw [show D = p.1 from q.symm, (N p hp).1] at hD; cases hD
end call_zip_comp_e
theorem call_zip_comp {prog : Program} {w : World} {A : Around} {E : Value → Shared → Prop} {s : Shared} {env : Env} {h₀ : Heap} {m : Str → Option Value} {news : List (Addr × Obj)} {elt iter : Expr} {x x₂ y : Str} {px px₂ tp py : Pos} {tkk : Nat} {scope : Scope} {cl : List (Str × Addr)} {pos : Pos} {l l' : Addr} {vs us : List Value} {R : Value → Value → Obj → Prop} {Q : Flow → Shared → Prop} (_ : RowsP2 pos R)
    (hh : A.handled = none) (hl : s.heap.IsList l vs.toArray) (hl' : s.heap.IsList l' us.toArray) (hlen : vs.length ≤ 4) (F : Fr h₀ env.locals s.heap m) (N : News h₀ env.locals s.heap news)
    (hcell : ∀ y ∈ scope.names, y.2 ≠ .cell) (hkind : scope.kind = .function) (hx : scope.names.lookup x = some .local) (hx₂ : scope.names.lookup x₂ = some .local) (hxx : x ≠ x₂)
    (hy : env.kindOf y = some .local) (hp : (env.scope.kind == .class || (env.scope.kind == .module && env.locals != env.globals)) = false)
    (K : EltOkR2 prog w A h₀ news env scope cl x x₂ elt (fun i v v₂ => i < min vs.length us.length ∧ vs[i]? = some v ∧ us[i]? = some v₂) R s)
    (k : ∀ D h' tk (ys : List Value) c a0 o0 a1 o1 a2 o2 a3 o3, Fr h₀ env.locals h' (fun z => if z = y then some (.ref D) else m z) → News h₀ env.locals h' ((D, listOf ys.toArray c) :: (a0, o0) :: (a1, o1) :: (a2, o2) :: (a3, o3) :: news) → (∀ p ∈ news, @Ne Nat p.1 D) → (∀ p ∈ news, @Ne Nat p.1 a0) → (∀ p ∈ news, @Ne Nat p.1 a1) → (∀ p ∈ news, @Ne Nat p.1 a2) → (∀ p ∈ news, @Ne Nat p.1 a3) → RowsAre2 (fun i v v₂ => vs[i]? = some v ∧ us[i]? = some v₂) R (min vs.length us.length) ys.toArray [(a0, o0), (a1, o1), (a2, o2), (a3, o3)] → Q .next { s with heap := h', toks := tk }) : wpAny (model prog w) A (call (.type "zip") [.ref l, .ref l']) (fun xv s₁ => wpAny (model prog w) A (pyIter xv) (fun it s₂ => BlkA prog w A env (.Tuple [.Name x px, .Name x₂ px₂] tkk tp) elt iter [] scope cl pos E y py Q it s₂) E s₁) E s := epsU (P := call_zip_comp_e.zzS) (by with_unfolding_all exact call_zip_comp_e.zzcore) (prog, w, A, E, s, env, h₀, m, news, elt, iter, x, x₂, y, px, px₂, tp, py, tkk, scope, cl, pos, l, l', vs, us, R, Q) ‹_› hh hl hl' hlen F N hcell hkind hx hx₂ hxx hy hp K k
section
variable {prog : Program} {w : World} {A : Around} {E : Value → Shared → Prop} {s : Shared} {env : Env} {h₀ : Heap} {L : Addr} {m : Str → Option Value} {news : List (Addr × Obj)}
end
end Mine.Internal
namespace Mine.Internal
noncomputable def TestPost (b : Bool) (s₃ : Shared) (ok : Bool) (s₄ : Shared) : Prop := ok = b ∧ ∃ h' tk, s₄ = { s₃ with heap := h', toks := tk } ∧ ∀ b o, s₃.heap.get? b = some o → h'.get? b = some o
theorem TestPost.intro {b ok : Bool} {s₃ : Shared} {h' : Heap} {tk : Nat} (g : ok = b) (k : ∀ b o, s₃.heap.get? b = some o → h'.get? b = some o) : TestPost b s₃ ok { s₃ with heap := h', toks := tk } := ⟨g, h', tk, rfl, k⟩
inductive TestP (pos : Pos) (b : Nat → Bool) : Prop
  | mk
theorem range_filter_succ (b : Nat → Bool) (i : Nat) : ((List.range (i + 1)).filter b).map (fun _ => (1 : Int)) = ((List.range i).filter b).map (fun _ => (1 : Int)) ++ (if b i = true then [1] else []) := by
  rw [List.range_succ, List.filter_append, List.map_append]
  congr 1
  cases h : b i <;> simp [h]
theorem ints_snoc {vs : List Value} {ns : List Int} (I : IntsAre vs ns) (n : Int) (t : Tok) : IntsAre (vs ++ [.int n t]) (ns ++ [n]) := by
  induction I with
  | nil => exact .cons n t .nil
  | cons m u _ ih => exact .cons m u ih
section
variable {prog : Program} {w : World} {A : Around} {E : Value → Shared → Prop} {s : Shared} {env : Env} {h₀ : Heap} {L : Addr} {m : Str → Option Value} {news : List (Addr × Obj)}
end
namespace comp_test2_e
noncomputable def zzQ (prog : Program) (w : World) (A : Around) (E : Value → Shared → Prop) (s : Shared) (env : Env) (h₀ : Heap) (L : Addr) (m : Str → Option Value) (news : List (Addr × Obj)) (iter : Expr) (c : Expr) (x : Str) (x₂ : Str) (px : Pos) (px₂ : Pos) (tp : Pos) (pe : Pos) (tkk : Nat) (ke : Nat) (scope : Scope) (cl : List (Str × Addr)) (pos : Pos) (l : Addr) (vs : List Value) (P : Nat → Value → Value → Prop) (b : Nat → Bool) (Q : Value → Shared → Prop) : Prop := ∀ elt : Expr, ∀ x_1 : TestP pos b, ∀ hh : A.handled = none, ∀ hl : s.heap.IsList l vs.toArray, ∀ hlen : vs.length ≤ 1000, ∀ F : Fr h₀ L s.heap m, ∀ N : News h₀ L s.heap news, ∀ hcell : ∀ y ∈ scope.names, y.2 ≠ .cell, ∀ hkind : scope.kind = .function, ∀ hx : scope.names.lookup x = some .local, ∀ hx₂ : scope.names.lookup x₂ = some .local, ∀ hxx : x ≠ x₂, ∀ hit : ∀ (i : Nat) (v : Value), vs[i]? = some v → ∃ t v₁ v₂, v = .ref t ∧ IsTup s.heap t #[v₁, v₂] ∧ P i v₁ v₂, ∀ KT : ∀ (C : Addr) (i : Nat) (v₁ v₂ : Value) (h : Heap) (g : Array GenState) (d : Drawn) (tk : Nat) (os : OsState) (m₃ : Str → Option Value), i < vs.length → P i v₁ v₂ → Fr h₀ C h m₃ → News h₀ C h news → m₃ x = some v₁ → m₃ x₂ = some v₂ → (∀ b o, s.heap.get? b = some o → h.get? b = some o) →
      wpAny (model prog w) A (isTrue c (compEnvC scope cl C env) (eval c (compEnvC scope cl C env))) (TestPost (b i) ⟨h, g, d, tk, os⟩) (fun _ _ => False) ⟨h, g, d, tk, os⟩, ∀ helt : elt = .Constant (.int 1) ke pe, ∀ k : ∀ D h' tk (ys : List Value) cap, Fr h₀ L h' m → News h₀ L h' ((D, listOf ys.toArray cap) :: news) → (∀ p ∈ news, @Ne Nat p.1 D) → IntsAre ys (((List.range vs.length).filter b).map fun _ => (1 : Int)) → Q (.ref D) { s with heap := h', toks := tk }, wpAny (model prog w) A (pyIter (.ref l)) (fun it s₂ => Blk prog w A env (.Tuple [.Name x px, .Name x₂ px₂] tkk tp) elt iter [c] scope cl pos E none Q it s₂) E s
noncomputable abbrev zzT : Type := Program × World × Around × (Value → Shared → Prop) × Shared × Env × Heap × Addr × (Str → Option Value) × (List (Addr × Obj)) × Expr × Expr × Str × Str × Pos × Pos × Pos × Pos × Nat × Nat × Scope × (List (Str × Addr)) × Pos × Addr × (List Value) × (Nat → Value → Value → Prop) × (Nat → Bool) × (Value → Shared → Prop)
noncomputable def zzS (z : zzT) : Prop := zzQ z.1 z.2.1 z.2.2.1 z.2.2.2.1 z.2.2.2.2.1 z.2.2.2.2.2.1 z.2.2.2.2.2.2.1 z.2.2.2.2.2.2.2.1 z.2.2.2.2.2.2.2.2.1 z.2.2.2.2.2.2.2.2.2.1 z.2.2.2.2.2.2.2.2.2.2.1 z.2.2.2.2.2.2.2.2.2.2.2.1 z.2.2.2.2.2.2.2.2.2.2.2.2.1 z.2.2.2.2.2.2.2.2.2.2.2.2.2.1 z.2.2.2.2.2.2.2.2.2.2.2.2.2.2.1 z.2.2.2.2.2.2.2.2.2.2.2.2.2.2.2.1 z.2.2.2.2.2.2.2.2.2.2.2.2.2.2.2.2.1 z.2.2.2.2.2.2.2.2.2.2.2.2.2.2.2.2.2.1 z.2.2.2.2.2.2.2.2.2.2.2.2.2.2.2.2.2.2.1 z.2.2.2.2.2.2.2.2.2.2.2.2.2.2.2.2.2.2.2.1 z.2.2.2.2.2.2.2.2.2.2.2.2.2.2.2.2.2.2.2.2.1 z.2.2.2.2.2.2.2.2.2.2.2.2.2.2.2.2.2.2.2.2.2.1 z.2.2.2.2.2.2.2.2.2.2.2.2.2.2.2.2.2.2.2.2.2.2.1 z.2.2.2.2.2.2.2.2.2.2.2.2.2.2.2.2.2.2.2.2.2.2.2.1 z.2.2.2.2.2.2.2.2.2.2.2.2.2.2.2.2.2.2.2.2.2.2.2.2.1 z.2.2.2.2.2.2.2.2.2.2.2.2.2.2.2.2.2.2.2.2.2.2.2.2.2.1 z.2.2.2.2.2.2.2.2.2.2.2.2.2.2.2.2.2.2.2.2.2.2.2.2.2.2.1 z.2.2.2.2.2.2.2.2.2.2.2.2.2.2.2.2.2.2.2.2.2.2.2.2.2.2.2
noncomputable def zzc : zzT := @Classical.epsilon zzT ⟨(cN, zw, zA, cN, zs, cN, cN, cN, cN, cN, cN, cN, cN, cN, cN, cN, cN, cN, cN, cN, cN, cN, cN, cN, cN, cN, cN, cN)⟩ fun z => ¬ zzS z
theorem zzcore : zzS zzc := by
  show zzQ _ _ _ _ _ _ _ _ _ _ _ _ _ _ _ _ _ _ _ _ _ _ _ _ _ _ _ _
  generalize zzc.1 = prog; generalize zzc.2.1 = w; generalize zzc.2.2.1 = A; generalize zzc.2.2.2.1 = E; generalize zzc.2.2.2.2.1 = s; generalize zzc.2.2.2.2.2.1 = env; generalize zzc.2.2.2.2.2.2.1 = h₀; generalize zzc.2.2.2.2.2.2.2.1 = L; generalize zzc.2.2.2.2.2.2.2.2.1 = m; generalize zzc.2.2.2.2.2.2.2.2.2.1 = news; generalize zzc.2.2.2.2.2.2.2.2.2.2.1 = iter; generalize zzc.2.2.2.2.2.2.2.2.2.2.2.1 = c; generalize zzc.2.2.2.2.2.2.2.2.2.2.2.2.1 = x; generalize zzc.2.2.2.2.2.2.2.2.2.2.2.2.2.1 = x₂; generalize zzc.2.2.2.2.2.2.2.2.2.2.2.2.2.2.1 = px; generalize zzc.2.2.2.2.2.2.2.2.2.2.2.2.2.2.2.1 = px₂; generalize zzc.2.2.2.2.2.2.2.2.2.2.2.2.2.2.2.2.1 = tp; generalize zzc.2.2.2.2.2.2.2.2.2.2.2.2.2.2.2.2.2.1 = pe; generalize zzc.2.2.2.2.2.2.2.2.2.2.2.2.2.2.2.2.2.2.1 = tkk; generalize zzc.2.2.2.2.2.2.2.2.2.2.2.2.2.2.2.2.2.2.2.1 = ke; generalize zzc.2.2.2.2.2.2.2.2.2.2.2.2.2.2.2.2.2.2.2.2.1 = scope; generalize zzc.2.2.2.2.2.2.2.2.2.2.2.2.2.2.2.2.2.2.2.2.2.1 = cl; generalize zzc.2.2.2.2.2.2.2.2.2.2.2.2.2.2.2.2.2.2.2.2.2.2.1 = pos; generalize zzc.2.2.2.2.2.2.2.2.2.2.2.2.2.2.2.2.2.2.2.2.2.2.2.1 = l; generalize zzc.2.2.2.2.2.2.2.2.2.2.2.2.2.2.2.2.2.2.2.2.2.2.2.2.1 = vs; generalize zzc.2.2.2.2.2.2.2.2.2.2.2.2.2.2.2.2.2.2.2.2.2.2.2.2.2.1 = P; generalize zzc.2.2.2.2.2.2.2.2.2.2.2.2.2.2.2.2.2.2.2.2.2.2.2.2.2.2.1 = b; generalize zzc.2.2.2.2.2.2.2.2.2.2.2.2.2.2.2.2.2.2.2.2.2.2.2.2.2.2.2 = Q
  intro elt _ hh hl hlen F N hcell hkind hx hx₂ hxx hit KT helt k
  subst helt
  obtain ⟨ol, hol, _⟩ := id hl
  refine wpAny_pyIter_list hl ?_
  generalize hI2 : s.heap.push { cls := .type "list_iterator", data := .fields #[.ref l, .int 0 0] } = h₂
  have hs : ∀ b o, s.heap.get? b = some o → h₂.get? b = some o := fun b o e => by rw [← hI2]; exact Heap.get?_push_of_some _ e
  have hsz₂ : @Eq Nat h₂.objs.size (s.heap.objs.size + 1) := by rw [← hI2, Heap.size_push]
  have W := walks_list (prog := prog) (w := w) (s := s) hh hl
  generalize hI' : s.heap.objs.size = I at W hsz₂
  have hI : s.heap.get? I = none := Heap.get?_none_of_le (by rw [hI']; exact Nat.le_refl _)
  have hst : h₂.IsListIter I l 0 ∧ h₂.IsList l vs.toArray := ⟨⟨_, by rw [← hI2, ← hI']; exact Heap.get?_push_size _ rfl, rfl, rfl⟩, hl.at fun o e => hs _ o e⟩
  have hlI : @LT.lt Nat _ l I := by rw [← hI']; exact Heap.lt_size hol
  refine wpAny_newObj_type (wpAny_newFunctionEnv hcell (by intro y hy; simp at hy) (fun h₁ hns₁ hsb₁ => ?_) hkind)
  dsimp only at hns₁ hsb₁ ⊢
  generalize hH2 : h₂.push { cls := .type "list", dict := none, data := .seq ([] : List Value).toArray } = H2 at hns₁ hsb₁ ⊢
  have hC : @Eq Nat H2.objs.size (h₂.objs.size + 1) := by rw [← hH2, Heap.size_push]
  have hDC : h₂.objs.size ≠ H2.objs.size := Nat.ne_of_lt (by lia)
  have below : ∀ b, @LT.lt Nat _ b h₂.objs.size → b ≠ H2.objs.size ∧ b ≠ h₂.objs.size := fun b hb => ⟨Nat.ne_of_lt (by lia), Nat.ne_of_lt hb⟩
  have old : ∀ b o, h₂.get? b = some o → h₁.get? b = some o := fun b o e => hsb₁.extBut b o (below b (Heap.lt_size e)).1 (Heap.get?_push_of_some _ (hH2 ▸ Heap.get?_push_of_some _ e))
  have hacc : h₁.PlainList h₂.objs.size #[] := ⟨_, hsb₁.extBut _ _ hDC (Heap.get?_push_of_some _ (hH2 ▸ Heap.get?_push_size _ rfl))⟩
  have hIlt : @LT.lt Nat _ I h₂.objs.size := by lia
  have hfp : ∀ b ∈ [I, l], @LT.lt Nat _ b h₂.objs.size := fun b hb => by
    rcases List.mem_cons.mp hb with rfl | hb
    · exact hIlt
    · rw [List.mem_singleton.mp hb]; lia
  have old2 : ∀ b o, s.heap.get? b = some o → b ≠ I ∧ b ≠ H2.objs.size ∧ b ≠ h₂.objs.size := fun b o e =>
    ⟨fun q => (by rw [q, hI] at e; cases e), below b (Heap.lt_size (hs b o e))⟩
  have hLlt : @LT.lt Nat _ L s.heap.objs.size := F.ns.lt
  have loop : ∀ s₃ : Shared, (∃ tk, s₃ = { s with heap := h₁, toks := tk }) →
      codeAny (model prog w) A (.compLoop (.ListComp (.Constant (.int 1) ke pe) [⟨.Tuple [.Name x px, .Name x₂ px₂] tkk tp, iter, [c], 0⟩] scope pos) 0 (.ref I) (.ref h₂.objs.size) (compEnvC scope cl H2.objs.size env))
        (compPost (model prog w) A E none Q (.ref h₂.objs.size) H2.objs.size) s₃ := by
    rintro s₃ ⟨tk₀, rfl⟩
    refine kct_loop
      (fun n' s' => ∃ h' tk i ys m', s' = { s with heap := h', toks := tk } ∧ i ≤ vs.length ∧ n' = vs.length + 1 - i ∧ (h'.IsListIter I l i ∧ h'.IsList l vs.toArray) ∧ h'.Ns H2.objs.size m' ∧ h'.PlainList h₂.objs.size ys ∧ (∀ b o, s.heap.get? b = some o → h'.get? b = some o) ∧
        IntsAre ys.toList (((List.range i).filter b).map fun _ => (1 : Int))) ?_ (vs.length + 1)
      ⟨h₁, _, 0, #[], _, rfl, Nat.zero_le _, rfl, W.frame 0 _ _ hst fun b _ o e => old b o e, hns₁, hacc, fun b o e => old b o (hs b o e), .nil⟩
    rintro n' s' ⟨h', tk, i, ys, m', rfl, hi, rfl, hst', hn', hpl, hkp, hG⟩
    by_cases hlt : i < vs.length
    · refine W.item i _ _ _ hlt hst' fun v h₃ tk₃ hPv hst₃ hk₃ => ?_
      obtain ⟨t, v₁, v₂, rfl, ht, hP⟩ := hit i v hPv
      have k3 : ∀ b o, b ≠ I → h'.get? b = some o → h₃.get? b = some o := fun b o hb e => hk₃ b o (by simpa using hb) e
      refine wpAny_letOwnedTupleGo_listiter hst₃.1 ?_
      obtain ⟨oT, hoT, hcT, nT, hdT⟩ := ht
      have ht3 : IsTup h₃ t #[v₁, v₂] := ⟨oT, k3 _ _ (old2 _ _ hoT).1 (hkp _ _ hoT), hcT, nT, hdT⟩
      refine assign_Tuple_tuple hh ht3 rfl rfl fun h₅ he => ?_
      have he' : ∀ b o, h₃.get? b = some o → h₅.get? b = some o := fun b o e => he b o (Nat.ne_of_lt (Heap.lt_size e)) e
      have k45 : ∀ b o, b ≠ I → h'.get? b = some o → h₅.get? b = some o := fun b o hb e => he' b o (k3 b o hb e)
      refine assignInOrder_cons (wpAny_assign_Name (wpAny_storeName_local (lookup_relabel_local hx) (hn'.at' fun o e => k45 _ o (fun q => absurd (q ▸ hIlt) (by lia)) e) (fun h₆ hn₆ hs₆ => ?_) (by simp [compEnvC, relabel, hkind])))
      refine assignInOrder_cons (wpAny_assign_Name (wpAny_storeName_local (lookup_relabel_local hx₂) hn₆ (fun h₇ hn₇ hs₇ => ?_) (by simp [compEnvC, relabel, hkind])))
      refine assignInOrder_nil ?_
      have k7 : ∀ b o, b ≠ H2.objs.size → h₅.get? b = some o → h₇.get? b = some o := fun b o hb e => hs₇.extBut b o hb (hs₆.extBut b o hb e)
      have ks : ∀ b o, s.heap.get? b = some o → h₇.get? b = some o := fun b o e => k7 b o (old2 b o e).2.1 (k45 b o (old2 b o e).1 (hkp b o e))
      have F₇ : Fr h₀ H2.objs.size h₇ _ := ⟨hn₇, fun b o e => ks b o (F.keep b o e), Nat.le_trans F.above (by show @LE.le Nat _ L H2.objs.size; lia)⟩
      have N₇ : News h₀ H2.objs.size h₇ news := fun p hp => ⟨ks _ _ (N p hp).1, (old2 _ _ (N p hp).1).2.1, (N p hp).2.2⟩
      have hst₇ : h₇.IsListIter I l (i + 1) ∧ h₇.IsList l vs.toArray := W.frame (i + 1) _ _ hst₃ fun b hb o e => k7 b o (below b (hfp b hb)).1 (he' b o e)
      obtain ⟨cap, hpl⟩ := hpl
      have hD₇ : h₇.get? h₂.objs.size = some (listOf ys cap) := k7 _ _ hDC (k45 _ _ (fun q => absurd (q ▸ hIlt) (Nat.lt_irrefl _)) hpl)
      refine wpAny_mono (KT H2.objs.size i v₁ v₂ h₇ s.gens s.drawn _ s.os _ hlt hP F₇ N₇ (by simp [hxx]) (by simp) ks) (fun ok s₈ h₈ => ?_) fun _ _ f => f.elim
      obtain ⟨rfl, h₈, tk₈, rfl, hk₈⟩ := h₈
      have hst₈ : h₈.IsListIter I l (i + 1) ∧ h₈.IsList l vs.toArray := W.frame (i + 1) _ _ hst₇ fun b hb o e => hk₈ b o e
      have zD : h₈.get? h₂.objs.size = some (listOf ys cap) := hk₈ _ _ hD₇
      have hr := range_filter_succ b i
      cases hb : b i with
      | false =>
        rw [hb] at hr
        simp only [Bool.false_eq_true, if_false, List.append_nil] at hr ⊢
        exact ⟨vs.length + 1 - (i + 1), by lia, h₈, tk₈, i + 1, ys, _, rfl, hlt, rfl, hst₈, F₇.ns.at' fun o e => hk₈ _ o e, ⟨_, zD⟩, fun b o e => hk₈ b o (ks b o e), by rw [hr]; exact hG⟩
      | true =>
        rw [hb] at hr
        simp only [if_true] at hr ⊢
        refine wpAny_Constant_int ?_
        have hys : ys.size ≤ 1000 := by
          have e1 := ints_len hG
          have e2 : ((List.range i).filter b).length ≤ (List.range i).length := List.length_filter_le _ _
          simp only [List.length_map, Array.length_toList, List.length_range] at e1 e2
          lia
        refine append_at (hsz := by rw [PySem.sizeLine_eq]; lia) zD fun h₉ hs₉ hD₉ => ?_
        have k9 : ∀ b o, b ≠ h₂.objs.size → h₇.get? b = some o → h₉.get? b = some o := fun b o hb e => hs₉.extBut b o hb (hk₈ b o e)
        exact ⟨vs.length + 1 - (i + 1), by lia, h₉, _, i + 1, _, _, rfl, hlt, rfl, W.frame (i + 1) _ _ hst₇ fun b hb o e => k9 b o (below b (hfp b hb)).2 e, F₇.ns.at' fun o e => k9 _ o (Ne.symm hDC) e, ⟨_, hD₉⟩, fun b o e => k9 b o (old2 b o e).2.2 (ks b o e), by rw [hr, Array.toList_push]; exact ints_snoc hG 1 _⟩
    · have hin : i = vs.length := by lia
      refine W.done _ _ _ (hin ▸ hst') fun h₃ tk₃ hk₃ => ?_
      obtain ⟨cap, hpl⟩ := hpl
      have k3 : ∀ b o, b ≠ I → h'.get? b = some o → h₃.get? b = some o := fun b o hb e => hk₃ b o (by simpa using hb) e
      have ks : ∀ b o, s.heap.get? b = some o → h₃.get? b = some o := fun b o e => k3 b o (old2 b o e).1 (hkp b o e)
      have hDn : s.heap.get? h₂.objs.size = none := Heap.get?_none_of_le (by lia)
      have hCn : s.heap.get? H2.objs.size = none := Heap.get?_none_of_le (by show @LE.le Nat _ s.heap.objs.size H2.objs.size; lia)
      obtain ⟨yl⟩ := ys
      have N₃ : News h₀ L h₃ ((h₂.objs.size, listOf yl.toArray cap) :: news) := fun p hp => by
        rcases List.mem_cons.mp hp with rfl | hp
        · exact ⟨k3 _ _ (fun q => absurd (q ▸ hIlt) (Nat.lt_irrefl _)) hpl, (fresh_in F hDn).1, (fresh_in F hDn).2⟩
        · exact ⟨ks _ _ (N p hp).1, (N p hp).2⟩
      refine post_eval (F.keeps ks) N₃ (hn'.at' fun o e => k3 _ o (fun q => absurd (q ▸ hIlt) (by lia)) e) (fresh_in F hCn).2 (fresh_in F hCn).1 (fun p hp q => ?_) fun h₄ F₄ N₄ _ => k _ h₄ _ yl cap F₄ N₄ (fun p hp q => ?_) (by rw [← hin]; exact hG)
      · rcases List.mem_cons.mp hp with rfl | hp
        · exact hDC q
        · rw [← q, (N p hp).1] at hCn; cases hCn
      · rw [show h₂.objs.size = p.1 from q.symm, (N p hp).1] at hDn; cases hDn
  exact codeAny_compStart_list (loop _ ⟨_, rfl⟩) (W.self 0 _ _ _ (W.frame 0 _ _ hst fun b _ o e => old b o e) (loop _ ⟨_, rfl⟩))
end comp_test2_e
theorem comp_test2 {prog : Program} {w : World} {A : Around} {E : Value → Shared → Prop} {s : Shared} {env : Env} {h₀ : Heap} {L : Addr} {m : Str → Option Value} {news : List (Addr × Obj)} {elt iter c : Expr} {x x₂ : Str} {px px₂ tp pe : Pos} {tkk ke : Nat} {scope : Scope} {cl : List (Str × Addr)} {pos : Pos} {l : Addr} {vs : List Value} {P : Nat → Value → Value → Prop} {b : Nat → Bool} {Q : Value → Shared → Prop} (_ : TestP pos b)
    (hh : A.handled = none) (hl : s.heap.IsList l vs.toArray) (hlen : vs.length ≤ 1000) (F : Fr h₀ L s.heap m) (N : News h₀ L s.heap news)
    (hcell : ∀ y ∈ scope.names, y.2 ≠ .cell) (hkind : scope.kind = .function) (hx : scope.names.lookup x = some .local) (hx₂ : scope.names.lookup x₂ = some .local) (hxx : x ≠ x₂)
    (hit : ∀ (i : Nat) (v : Value), vs[i]? = some v → ∃ t v₁ v₂, v = .ref t ∧ IsTup s.heap t #[v₁, v₂] ∧ P i v₁ v₂)
    (KT : ∀ (C : Addr) (i : Nat) (v₁ v₂ : Value) (h : Heap) (g : Array GenState) (d : Drawn) (tk : Nat) (os : OsState) (m₃ : Str → Option Value), i < vs.length → P i v₁ v₂ → Fr h₀ C h m₃ → News h₀ C h news → m₃ x = some v₁ → m₃ x₂ = some v₂ → (∀ b o, s.heap.get? b = some o → h.get? b = some o) →
      wpAny (model prog w) A (isTrue c (compEnvC scope cl C env) (eval c (compEnvC scope cl C env))) (TestPost (b i) ⟨h, g, d, tk, os⟩) (fun _ _ => False) ⟨h, g, d, tk, os⟩)
    (helt : elt = .Constant (.int 1) ke pe)
    (k : ∀ D h' tk (ys : List Value) cap, Fr h₀ L h' m → News h₀ L h' ((D, listOf ys.toArray cap) :: news) → (∀ p ∈ news, @Ne Nat p.1 D) → IntsAre ys (((List.range vs.length).filter b).map fun _ => (1 : Int)) → Q (.ref D) { s with heap := h', toks := tk }) : wpAny (model prog w) A (pyIter (.ref l)) (fun it s₂ => Blk prog w A env (.Tuple [.Name x px, .Name x₂ px₂] tkk tp) elt iter [c] scope cl pos E none Q it s₂) E s := epsU (P := comp_test2_e.zzS) (by with_unfolding_all exact comp_test2_e.zzcore) (prog, w, A, E, s, env, h₀, L, m, news, iter, c, x, x₂, px, px₂, tp, pe, tkk, ke, scope, cl, pos, l, vs, P, b, Q) elt ‹_› hh hl hlen F N hcell hkind hx hx₂ hxx hit KT helt k
section
variable {prog : Program} {w : World} {A : Around} {E : Value → Shared → Prop} {s : Shared} {env : Env} {h₀ : Heap} {L : Addr} {m : Str → Option Value} {news : List (Addr × Obj)}
end
end Mine.Internal
namespace Mine.Internal
theorem lcP2_eval {prog : Program} {w : World} {A : Around} {E : Value → Shared → Prop} {s : Shared} {env : Env} {elt iter : Expr} {x : Str} {px : Pos} {scope : Scope} {cl : List (Str × Addr)} {pos : Pos} {Q : Value → Shared → Prop} {G : Value → Value → Prop} (_ : CompP pos G)
    (hclos : closureFor scope env = pure cl) (hcell : ∀ y ∈ scope.names, y.2 ≠ .cell) (hkind : scope.kind = .function)
    (hnames : ∀ y ∈ scope.names, y.2 = .local → scope.names.lookup y.1 = some .local) (hx : scope.names.lookup x = some .local)
    (h : wpAny (model prog w) A (eval iter env) (fun xv s₁ => wpAny (model prog w) A (pyIter xv) (fun it s₂ => LcAt prog w A env scope cl x elt G Q it s₂) E s₁) E s)
    (hs : autoParam (∀ x, foldedSetIterable iter env x = pure x) auJ) :
    wpAny (model prog w) A (eval (.ListComp elt [⟨.Name x px, iter, [], 0⟩] scope pos) env) Q E s := lc_eval (G := G) trivial hclos hcell hkind hnames hx h hs
theorem ints_inj {vs : List Value} {a b : List Int} (x : IntsAre vs a) : IntsAre vs b → a = b := by
  induction x generalizing b with
  | nil => intro y; cases y; rfl
  | cons n t _ ih => intro y; cases y with | cons _ _ y => rw [ih y]
noncomputable def RBits (v : Value) (o : Obj) : Prop := ∀ n t, v = .int n t → ∃ (zs : List Value) (c : Nat), o = listOf zs.toArray c ∧ IntsAre zs ((List.range 90).map fun (i : Nat) => Int.fmod (Int.fdiv n (2 ^ (i : Int).toNat)) 2)
theorem RBits.of {n : Int} {t : Tok} {zs : List Value} {c : Nat} (I : IntsAre zs ((List.range 90).map fun (i : Nat) => Int.fmod (Int.fdiv n (2 ^ (i : Int).toNat)) 2)) : RBits (.int n t) (listOf zs.toArray c) := fun _ _ e => by cases e; exact ⟨zs, c, rfl, I⟩
noncomputable abbrev BitL (n : Int) : List Int := (List.range 90).map fun (i : Nat) => Int.fmod (Int.fdiv n (2 ^ (i : Int).toNat)) 2
theorem row_bits {g h : Heap} {L : Addr} {us : List Value} {ns : List Int} {ys : List Value} {rows news : List (Addr × Obj)} (N : News g L h news) (hs : ∀ p ∈ rows, p ∈ news) (I : IntsAre us ns) (hr : RowsAre (fun i v => us[i]? = some v) RBits us.length ys.toArray rows) {i : Nat} {v : Value} (e : ys[i]? = some v) :
    ∃ (a : Addr) (zs : List Value) (n : Int), v = .ref a ∧ h.IsList a zs.toArray ∧ IntsAre zs ((List.range 90).map fun (i : Nat) => Int.fmod (Int.fdiv n (2 ^ (i : Int).toNat)) 2) ∧ ∀ (i' : Nat) (n' : Int), ys[i']? = some v → ns[i']? = some n' → BitL n' = BitL n := by
  have one : ∀ (j : Nat), ys[j]? = some v → ∃ (a : Addr) (zs : List Value) (n : Int), v = .ref a ∧ h.IsList a zs.toArray ∧ IntsAre zs (BitL n) ∧ ns[j]? = some n := fun j ej => by
    obtain ⟨u, a, o, p, rfl, hm, r⟩ := hr.2 j v (by simpa using ej)
    obtain ⟨n, t, rfl, hn⟩ := ints_at I p
    obtain ⟨zs, c, rfl, Z⟩ := r n t rfl
    exact ⟨a, zs, n, rfl, ⟨_, (N _ (hs _ hm)).1, rfl, _, rfl⟩, Z, hn⟩
  obtain ⟨a, zs, n, rfl, hl, Z, hn⟩ := one i e
  refine ⟨a, zs, n, rfl, hl, Z, fun i' n' e' hn' => ?_⟩
  obtain ⟨a', zs', n'', e2, hl', Z', hn''⟩ := one i' e'
  cases e2
  obtain ⟨o, ho, hc, k, hd⟩ := hl
  obtain ⟨o', ho', hc', k', hd'⟩ := hl'
  rw [ho] at ho'; cases ho'
  rw [hd] at hd'; cases hd'
  rw [hn''] at hn'; cases hn'
  exact (ints_inj Z' Z)
theorem ne_IsQ {prog : Program} {w : World} {A : Around} {E : Value → Shared → Prop} {s : Shared} {Q : Value → Shared → Prop} {ns : List Int} {v v' : Value} (h1 : IsQ ns v) (h2 : IsQ ns v') (h : Q (.bool false) s) : wpAny (model prog w) A (compareOp .NotEq v v') Q E s := by
  cases h1 with
  | num t e z =>
    cases h2 with
    | num t' e' _ => subst e e'; exact PyProof.Rows.ne_int (by simpa using h)
    | bad _ _ z' => exact absurd z' z
  | bad t e z =>
    cases h2 with
    | num _ _ z' => exact absurd z z'
    | bad t' e' _ => subst e e'; exact ne_str (by simpa using h)
theorem ne_intsF {prog : Program} {w : World} {A : Around} {E : Value → Shared → Prop} {s : Shared} {a b : Addr} {vs us : List Value} {ns ms : List Int} {Q : Value → Shared → Prop} (hl : s.heap.IsList a vs.toArray) (hi : IntsAre vs ns) (hl' : s.heap.IsList b us.toArray) (hi' : IntsAre us ms) (hu : A.units + 64 < cLine) (he : ns ≠ ms)
    (h : Q (.bool true) s) : wpAny (model prog w) A (compareOp .NotEq (.ref a) (.ref b)) Q E s := ne_intsK hl hi hl' hi' hu (by simpa [he] using h)
theorem eq_intsF {prog : Program} {w : World} {A : Around} {E : Value → Shared → Prop} {s : Shared} {a b : Addr} {vs us : List Value} {ns ms : List Int} {Q : Value → Shared → Prop} (hl : s.heap.IsList a vs.toArray) (hi : IntsAre vs ns) (hl' : s.heap.IsList b us.toArray) (hi' : IntsAre us ms) (hu : A.units + 64 < cLine) (he : ns ≠ ms)
    (h : Q (.bool false) s) : wpAny (model prog w) A (compareOp .Eq (.ref a) (.ref b)) Q E s := eq_intsK hl hi hl' hi' hu (by simpa [he] using h)
section
variable {w : World} {B h g : Heap} {l : List Env} {L : Addr} {s : Shared} {m : Str → Option Value} {news : List (Addr × Obj)} {A : Around} {Q E : Value → Shared → Prop}
  {f c' : Addr} {name qual : Str} {params : Arguments} {body : Expr} {scope : Scope} {cl : List (Str × Addr)} {pm ctv : Value} {oc : Obj} {vs : Array Value} {t : Tok}
theorem told_quot {ns : List Int} {cname : Str} {cs : Scope} {a : Addr} {cd : Value} {ccl : List (Str × Addr)} (S : Std w B) (G : Gr B h g l) (F : Fr g L s.heap m) (N : News g L s.heap news) (hfr : A.frames = some (envX cname cs L a cd ccl :: l)) (hk : cs.kind ≠ .module)
    (hm : (f, kla_obj name qual params body scope cl pm c' ctv) ∈ news) (hmc : (c', oc) ∈ news) (hdd : oc.data = .fields vs) (hq : vs[1]? = some (.str qual t))
    (hok : ¬ quotZ ns → ∀ h', (∀ p ∈ news, h'.get? p.1 = some p.2) → Std w h' → B.StaysIn h' → h'.get? f = some (kla_obj name qual params body scope cl pm c' ctv) → h'.CodeRec (.ref c') qual → Calls w 378 (.ref f) [] h' (fun v _ => ∃ t, v = .int (quotV ns) t))
    (hbad : quotZ ns → ∀ h', (∀ p ∈ news, h'.get? p.1 = some p.2) → Std w h' → B.StaysIn h' → h'.get? f = some (kla_obj name qual params body scope cl pm c' ctv) → h'.CodeRec (.ref c') qual → Raises w 378 (.ref f) [] h' (Str.ofString "arith-error"))
    (k : ∀ g' v h' tk', IsQ ns v → Gr B h g' l → Std w g' → Fr g' L h' m → News g' L h' news → Q v { s with heap := h', toks := tk' })
    (hh : autoParam (A.handled = none) auR) (hd : autoParam (A.depth ≤ 377) auL) (hu : autoParam (A.units ≤ 8 * 377) auL) :
    wpAny (model Challenge.rw_np0089_01.row.prog w) A (call (.ref 723) [.ref f]) Q E s := by
  by_cases hz : quotZ ns
  · exact told_raiseN S G F N hfr hk hm hmc hdd hq (hbad hz) (fun g' tk v h' tk' e G' S' F' N' => k g' v h' tk' (.bad tk e hz) G' S' F' N') hh hd hu
  · have Sg := S.keeps G.base
    exact told_okN Sg F N hm hmc hdd hq (fun h' st S' ho hcd => hok hz h' (fun p hp => st _ _ (N p hp).1) S' (fun b o q => st _ _ (F.keep _ _ (G.base _ _ q))) ho hcd) (fun v h' tk' p F' N' _ => by obtain ⟨t, e⟩ := p; exact k g v h' tk' (.num t e hz) G Sg F' N') hh hd hu
end
inductive SumKeep : Prop
  | mk
theorem sum_keep {prog : Program} {w : World} {A : Around} {E : Value → Shared → Prop} {s : Shared} {h₀ : Heap} {L l : Addr} {m : Str → Option Value} {news : List (Addr × Obj)} {vs : List Value} {ns : List Int} {Q : Value → Shared → Prop} (_ : SumKeep) (F : Fr h₀ L s.heap m) (N : News h₀ L s.heap news) (hh : A.handled = none) (hl : s.heap.IsList l vs.toArray) (hi : IntsAre vs ns)
    (h : ∀ h' tk t', Fr h₀ L h' m → News h₀ L h' news → (∀ b o, s.heap.get? b = some o → h'.get? b = some o) → Q (.int ns.sum t') { s with heap := h', toks := tk }) : wpAny (model prog w) A (call (.builtin "sum") [.ref l]) Q E s := by
  obtain ⟨xs, hx⟩ := hi.allInts.items
  refine sum_intListG hh (hx ▸ hl : s.heap.IsList l (intItems xs)) fun h' tk t' hk => ?_
  have e1 : ns = xs.toList.map (·.1) := by
    rw [← nums_intItems, ← hx]
    exact (show numsOf vs.toArray.toList = ns from hi.numsOf).symm
  have e2 : preSum (numAt xs) xs.size = ns.sum := by rw [preSum_eq, List.take_of_length_le (by simp), e1]
  rw [e2]
  exact h h' tk t' (F.keeps hk) (N.grown hk) hk
end Mine.Internal
namespace Mine.Internal
noncomputable def bt (n : Int) (j : Nat) : Int := n / 2 ^ j % 2
theorem bt_def (n : Int) (i : Nat) : Int.fmod (Int.fdiv n (2 ^ ((i : Int)).toNat)) 2 = bt n i := by
  unfold bt
  rw [Int.toNat_natCast, Int.fdiv_eq_ediv_of_nonneg _ (Int.le_of_lt (Int.pow_pos (by decide))), Int.fmod_eq_emod_of_nonneg _ (by decide)]
theorem bt_zero (n : Int) : bt n 0 = n % 2 := by simp [bt]
theorem bt_succ (n : Int) (j : Nat) : bt n (j + 1) = bt (n / 2) j := by
  unfold bt
  rw [Int.pow_succ, Int.mul_comm, Int.ediv_ediv_of_nonneg (by decide)]
theorem bt_01 (n : Int) (j : Nat) : bt n j = 0 ∨ bt n j = 1 := by unfold bt; lia
theorem nand_half (a b : Nat) : (a % 2 = 0 ∨ b % 2 = 0) ∧ a &&& b = 2 * (a / 2 &&& b / 2) ∨ (a % 2 = 1 ∧ b % 2 = 1) ∧ a &&& b = 2 * (a / 2 &&& b / 2) + 1 := by
  have h1 := Nat.and_div_two (a := a) (b := b)
  have h2 := Nat.and_mod_two_eq_one (a := a) (b := b)
  rcases Nat.mod_two_eq_zero_or_one (a &&& b) with h | h
  · left; rw [← h1]; constructor
    · rcases Nat.mod_two_eq_zero_or_one a with x | x
      · exact Or.inl x
      · rcases Nat.mod_two_eq_zero_or_one b with y | y
        · exact Or.inr y
        · have := h2.2 ⟨x, y⟩; lia
    · lia
  · right; rw [← h1]; exact ⟨h2.1 h, by lia⟩
theorem nor_half (a b : Nat) : (a % 2 = 1 ∨ b % 2 = 1) ∧ a ||| b = 2 * (a / 2 ||| b / 2) + 1 ∨ (a % 2 = 0 ∧ b % 2 = 0) ∧ a ||| b = 2 * (a / 2 ||| b / 2) := by
  have h1 := Nat.or_div_two (a := a) (b := b)
  have h2 := Nat.or_mod_two_eq_one (a := a) (b := b)
  rcases Nat.mod_two_eq_zero_or_one (a ||| b) with h | h
  · right; rw [← h1]; constructor
    · rcases Nat.mod_two_eq_zero_or_one a with x | x
      · rcases Nat.mod_two_eq_zero_or_one b with y | y
        · exact ⟨x, y⟩
        · have := h2.2 (Or.inr y); lia
      · have := h2.2 (Or.inl x); lia
    · lia
  · left; rw [← h1]; exact ⟨h2.1 h, by lia⟩
theorem not_eq (x : Int) : Builtin.bitNot x = -1 - x := by unfold Builtin.bitNot; lia
theorem cast1 {m k : Nat} (h : m = 2 * k + 1) : (m : Int) = 2 * (k : Int) + 1 := by lia
theorem cast0 {m k : Nat} (h : m = 2 * k) : (m : Int) = 2 * (k : Int) := by lia
theorem cpos1 {a : Nat} (h : a % 2 = 1) : (a : Int) % 2 = 1 := by lia
theorem cpos0 {a : Nat} (h : a % 2 = 0) : (a : Int) % 2 = 0 := by lia
theorem cneg1 {a : Nat} (h : a % 2 = 1) : (-1 - (a : Int)) % 2 = 0 := by lia
theorem cneg0 {a : Nat} (h : a % 2 = 0) : (-1 - (a : Int)) % 2 = 1 := by lia
theorem chalf (a : Nat) : (a : Int) / 2 = ((a / 2 : Nat) : Int) := by lia
theorem nhalf (a : Nat) : (-1 - (a : Int)) / 2 = -1 - ((a / 2 : Nat) : Int) := by lia
theorem dif0 {a m k : Nat} (h : a % 2 = 0) (hm : m = 2 * k) : (a : Int) - (m : Int) = 2 * (((a / 2 : Nat) : Int) - (k : Int)) := by lia
theorem dif1 {a m k : Nat} (h : a % 2 = 1) (hm : m = 2 * k) : (a : Int) - (m : Int) = 2 * (((a / 2 : Nat) : Int) - (k : Int)) + 1 := by lia
theorem dif2 {a m k : Nat} (h : a % 2 = 1) (hm : m = 2 * k + 1) : (a : Int) - (m : Int) = 2 * (((a / 2 : Nat) : Int) - (k : Int)) := by lia
theorem neg1 {m k : Nat} (hm : m = 2 * k + 1) : -1 - (m : Int) = 2 * (-1 - (k : Int)) := by lia
theorem neg0 {m k : Nat} (hm : m = 2 * k) : -1 - (m : Int) = 2 * (-1 - (k : Int)) + 1 := by lia
theorem negForm {x : Int} (h : ¬ 0 ≤ x) : ∃ a : Nat, x = -1 - (a : Int) := ⟨(-1 - x).toNat, by lia⟩
theorem negOff (a : Nat) : ¬ 0 ≤ -1 - (a : Int) := by lia
theorem negNeg (b : Nat) : -1 - (-1 - (b : Int)) = (b : Int) := by lia
theorem bap (a b : Nat) : Builtin.bitAnd (a : Int) (b : Int) = ((a &&& b : Nat) : Int) := by
  rw [PyProof.Rows.bitAnd_pp (Int.natCast_nonneg a) (Int.natCast_nonneg b), Int.toNat_natCast, Int.toNat_natCast]
theorem ban (a b : Nat) : Builtin.bitAnd (a : Int) (-1 - (b : Int)) = (a : Int) - ((a &&& b : Nat) : Int) := by
  rw [PyProof.Rows.bitAnd_pn (Int.natCast_nonneg a) (negOff b), not_eq, negNeg, Int.toNat_natCast, Int.toNat_natCast]
theorem bann (a b : Nat) : Builtin.bitAnd (-1 - (a : Int)) (-1 - (b : Int)) = -1 - ((a ||| b : Nat) : Int) := by
  rw [PyProof.Rows.bitAnd_nn (negOff a) (negOff b), not_eq, not_eq, not_eq, negNeg, negNeg, Int.toNat_natCast, Int.toNat_natCast]
theorem and_half_pn (a b : Nat) : ((a : Int) % 2 = 1 ∧ (-1 - (b : Int)) % 2 = 1 ∧ Builtin.bitAnd (a : Int) (-1 - (b : Int)) = 2 * Builtin.bitAnd ((a : Int) / 2) ((-1 - (b : Int)) / 2) + 1) ∨ (((a : Int) % 2 = 0 ∨ (-1 - (b : Int)) % 2 = 0) ∧ Builtin.bitAnd (a : Int) (-1 - (b : Int)) = 2 * Builtin.bitAnd ((a : Int) / 2) ((-1 - (b : Int)) / 2)) := by
  rw [chalf, nhalf, ban, ban]
  rcases nand_half a b with ⟨h, e⟩ | ⟨⟨h1, h2⟩, e⟩
  · rcases Nat.mod_two_eq_zero_or_one a with h0 | h1
    · exact Or.inr ⟨Or.inl (cpos0 h0), dif0 h0 e⟩
    · rcases h with h | h
      · rw [h] at h1; cases h1
      · exact Or.inl ⟨cpos1 h1, cneg0 h, dif1 h1 e⟩
  · exact Or.inr ⟨Or.inr (cneg1 h2), dif2 h1 e⟩
theorem and_half (x y : Int) : (x % 2 = 1 ∧ y % 2 = 1 ∧ Builtin.bitAnd x y = 2 * Builtin.bitAnd (x / 2) (y / 2) + 1) ∨ ((x % 2 = 0 ∨ y % 2 = 0) ∧ Builtin.bitAnd x y = 2 * Builtin.bitAnd (x / 2) (y / 2)) := by
  by_cases hx : 0 ≤ x <;> by_cases hy : 0 ≤ y
  · obtain ⟨a, rfl⟩ := Int.eq_ofNat_of_zero_le hx
    obtain ⟨b, rfl⟩ := Int.eq_ofNat_of_zero_le hy
    rw [chalf, chalf, bap, bap]
    rcases nand_half a b with ⟨h, e⟩ | ⟨⟨h1, h2⟩, e⟩
    · exact Or.inr ⟨h.imp cpos0 cpos0, cast0 e⟩
    · exact Or.inl ⟨cpos1 h1, cpos1 h2, cast1 e⟩
  · obtain ⟨a, rfl⟩ := Int.eq_ofNat_of_zero_le hx
    obtain ⟨b, rfl⟩ := negForm hy
    exact and_half_pn a b
  · obtain ⟨a, rfl⟩ := negForm hx
    obtain ⟨b, rfl⟩ := Int.eq_ofNat_of_zero_le hy
    rw [PyProof.Rows.bitAnd_comm, PyProof.Rows.bitAnd_comm (_ / 2)]
    rcases and_half_pn b a with ⟨h1, h2, e⟩ | ⟨h, e⟩
    · exact Or.inl ⟨h2, h1, e⟩
    · exact Or.inr ⟨h.symm, e⟩
  · obtain ⟨a, rfl⟩ := negForm hx
    obtain ⟨b, rfl⟩ := negForm hy
    rw [nhalf, nhalf, bann, bann]
    rcases nor_half a b with ⟨h, e⟩ | ⟨⟨h1, h2⟩, e⟩
    · exact Or.inr ⟨h.imp cneg1 cneg1, neg1 e⟩
    · exact Or.inl ⟨cneg0 h1, cneg0 h2, neg0 e⟩
theorem half3 {P : Prop} (x y : Int) (k1 : x % 2 = 1 → y % 2 = 1 → Builtin.bitAnd x y = 2 * Builtin.bitAnd (x / 2) (y / 2) + 1 → P) (k2 : x % 2 = 0 → Builtin.bitAnd x y = 2 * Builtin.bitAnd (x / 2) (y / 2) → P) (k3 : y % 2 = 0 → Builtin.bitAnd x y = 2 * Builtin.bitAnd (x / 2) (y / 2) → P) : P := by
  rcases and_half x y with ⟨h1, h2, e⟩ | ⟨h | h, e⟩
  · exact k1 h1 h2 e
  · exact k2 h e
  · exact k3 h e
theorem pqd1 (k : Int) : (2 * k + 1) / 2 = k ∧ (2 * k + 1) % 2 = 1 := by
  rw [Int.add_comm, Int.add_mul_ediv_left _ _ (by decide), Int.add_mul_emod_self_left]; exact ⟨Int.zero_add k, rfl⟩
theorem pqd0 (k : Int) : (2 * k) / 2 = k ∧ (2 * k) % 2 = 0 := ⟨Int.mul_ediv_cancel_left k (by decide), Int.mul_emod_right 2 k⟩
theorem pqdy (y k : Int) : (y + 2 * k) / 2 = y / 2 + k ∧ (y + 2 * k) % 2 = y % 2 := ⟨Int.add_mul_ediv_left _ _ (by decide), Int.add_mul_emod_self_left ..⟩
theorem pqsp1 {x : Int} (h : x % 2 = 1) : x = 2 * (x / 2) + 1 := by have := Int.mul_ediv_add_emod x 2; rw [h] at this; exact this.symm
theorem pqsp0 {x : Int} (h : x % 2 = 0) : x = 2 * (x / 2) := by have := Int.mul_ediv_add_emod x 2; rw [h, Int.add_zero] at this; exact this.symm
theorem pqe1 {a h : Int} (e : a = 2 * h + 1) : a / 2 = h ∧ a % 2 = 1 := e ▸ pqd1 h
theorem pqe0 {a h : Int} (e : a = 2 * h) : a / 2 = h ∧ a % 2 = 0 := e ▸ pqd0 h
theorem pql1 {x y a p q h : Int} (hx : x = 2 * p + 1) (hy : y = 2 * q + 1) (e : a = 2 * h + 1) : x + y - a = 2 * (p + q - h) + 1 := by lia
theorem pql2 {x y a p h : Int} (hx : x = 2 * p) (e : a = 2 * h) : x + y - a = y + 2 * (p - h) := by lia
theorem pql3 {x y a p q h : Int} (hx : x = 2 * p + 1) (hy : y = 2 * q + 1) (e : a = 2 * h + 1) : x + y - 2 * a = 2 * (p + q - 2 * h) := by lia
theorem pql4 {x y a p h : Int} (hx : x = 2 * p) (e : a = 2 * h) : x + y - 2 * a = y + 2 * (p - 2 * h) := by lia
theorem pqsw (p q h : Int) : q + (p - h) = p + q - h := by rw [← Int.add_sub_assoc, Int.add_comm q]
theorem pqo1 {x y a h : Int} (hx : x % 2 = 1) (hy : y % 2 = 1) (e : a = 2 * h + 1) : (x + y - a) / 2 = x / 2 + y / 2 - h := by rw [pql1 (pqsp1 hx) (pqsp1 hy) e]; exact (pqd1 _).1
theorem pqo1' {x y a h : Int} (hx : x % 2 = 1) (hy : y % 2 = 1) (e : a = 2 * h + 1) : (x + y - a) % 2 = 1 := by rw [pql1 (pqsp1 hx) (pqsp1 hy) e]; exact (pqd1 _).2
theorem pqo2 {x y a h : Int} (hx : x % 2 = 0) (e : a = 2 * h) : (x + y - a) / 2 = x / 2 + y / 2 - h := by rw [pql2 (pqsp0 hx) e, (pqdy y _).1, pqsw]
theorem pqo2' {x y a h : Int} (hx : x % 2 = 0) (e : a = 2 * h) : (x + y - a) % 2 = y % 2 := by rw [pql2 (pqsp0 hx) e, (pqdy y _).2]
theorem pqx1 {x y a h : Int} (hx : x % 2 = 1) (hy : y % 2 = 1) (e : a = 2 * h + 1) : (x + y - 2 * a) / 2 = x / 2 + y / 2 - 2 * h := by rw [pql3 (pqsp1 hx) (pqsp1 hy) e]; exact (pqd0 _).1
theorem pqx2 {x y a h : Int} (hx : x % 2 = 0) (e : a = 2 * h) : (x + y - 2 * a) / 2 = x / 2 + y / 2 - 2 * h := by rw [pql4 (pqsp0 hx) e, (pqdy y _).1, pqsw]
theorem pqor0 {x y o : Int} (hx : x % 2 = 0) (e : o % 2 = y % 2) : ((x % 2 = 1 ∨ y % 2 = 1) ∧ o % 2 = 1) ∨ (x % 2 = 0 ∧ y % 2 = 0 ∧ o % 2 = 0) := by
  rcases Int.emod_two_eq y with h | h
  · exact Or.inr ⟨hx, h, e.trans h⟩
  · exact Or.inl ⟨Or.inr h, e.trans h⟩
theorem and_div (x y : Int) : Builtin.bitAnd x y / 2 = Builtin.bitAnd (x / 2) (y / 2) := half3 x y (fun _ _ e => (pqe1 e).1) (fun _ e => (pqe0 e).1) (fun _ e => (pqe0 e).1)
theorem or_div (x y : Int) : Builtin.bitOr x y / 2 = Builtin.bitOr (x / 2) (y / 2) := by
  rw [PyProof.Rows.bitOr_and, PyProof.Rows.bitOr_and]
  exact half3 x y pqo1 pqo2 fun h e => by rw [Int.add_comm x, Int.add_comm (x / 2)]; exact pqo2 h e
theorem xor_and (x y : Int) : Builtin.bitXor x y = x + y - 2 * Builtin.bitAnd x y := by
  unfold Builtin.bitXor; rw [PyProof.Rows.bitOr_and]; lia
theorem xor_div (x y : Int) : Builtin.bitXor x y / 2 = Builtin.bitXor (x / 2) (y / 2) := by
  rw [xor_and, xor_and]
  exact half3 x y pqx1 pqx2 fun h e => by rw [Int.add_comm x, Int.add_comm (x / 2)]; exact pqx2 h e
theorem bt_and : ∀ (j : Nat) (x y : Int), (bt x j = 1 ∧ bt y j = 1 ∧ bt (Builtin.bitAnd x y) j = 1) ∨ ((bt x j = 0 ∨ bt y j = 0) ∧ bt (Builtin.bitAnd x y) j = 0)
  | 0, x, y => by simp only [bt_zero]; exact half3 x y (fun h1 h2 e => Or.inl ⟨h1, h2, (pqe1 e).2⟩) (fun h e => Or.inr ⟨Or.inl h, (pqe0 e).2⟩) (fun h e => Or.inr ⟨Or.inr h, (pqe0 e).2⟩)
  | j + 1, x, y => by simp only [bt_succ, and_div]; exact bt_and j _ _
theorem bt_or : ∀ (j : Nat) (x y : Int), ((bt x j = 1 ∨ bt y j = 1) ∧ bt (Builtin.bitOr x y) j = 1) ∨ (bt x j = 0 ∧ bt y j = 0 ∧ bt (Builtin.bitOr x y) j = 0)
  | 0, x, y => by
    simp only [bt_zero, PyProof.Rows.bitOr_and]
    refine half3 x y (fun h1 h2 e => Or.inl ⟨Or.inl h1, pqo1' h1 h2 e⟩) (fun h e => pqor0 h (pqo2' h e)) fun h e => ?_
    rw [Int.add_comm x]
    rcases pqor0 h (pqo2' (y := x) h e) with ⟨q, r⟩ | ⟨q, r, t⟩
    · exact Or.inl ⟨q.symm, r⟩
    · exact Or.inr ⟨r, q, t⟩
  | j + 1, x, y => by simp only [bt_succ, or_div]; exact bt_or j _ _
theorem bt_xor : ∀ (j : Nat) (x y : Int), bt (Builtin.bitXor x y) j = (bt x j + bt y j) % 2
  | 0, x, y => by simp only [bt_zero, xor_and]; lia
  | j + 1, x, y => by simp only [bt_succ, xor_div]; exact bt_xor j _ _
noncomputable def InR : Nat → Int → Prop
  | 0, n => n = 0 ∨ n = -1
  | k + 1, n => InR k (n / 2)
theorem inR_iff : ∀ (k : Nat) (n : Int), InR k n ↔ -2 ^ k ≤ n ∧ n < 2 ^ k
  | 0, n => by simp only [InR]; lia
  | k + 1, n => by
    simp only [InR, inR_iff k]
    have h : (2 : Int) ^ (k + 1) = 2 * 2 ^ k := by rw [Int.pow_succ]; lia
    rw [h]; generalize (2 : Int) ^ k = z; lia
theorem inR_and : ∀ (k : Nat) {x y : Int}, InR k x → InR k y → InR k (Builtin.bitAnd x y)
  | 0, x, y, hx, hy => by
    rcases hx with rfl | rfl <;> rcases hy with rfl | rfl <;> simp only [InR] <;> decide
  | k + 1, x, y, hx, hy => by simp only [InR, and_div] at *; exact inR_and k hx hy
theorem inR_or : ∀ (k : Nat) {x y : Int}, InR k x → InR k y → InR k (Builtin.bitOr x y)
  | 0, x, y, hx, hy => by
    rcases hx with rfl | rfl <;> rcases hy with rfl | rfl <;> simp only [InR] <;> decide
  | k + 1, x, y, hx, hy => by simp only [InR, or_div] at *; exact inR_or k hx hy
theorem inR_xor : ∀ (k : Nat) {x y : Int}, InR k x → InR k y → InR k (Builtin.bitXor x y)
  | 0, x, y, hx, hy => by
    rcases hx with rfl | rfl <;> rcases hy with rfl | rfl <;> simp only [InR] <;> decide
  | k + 1, x, y, hx, hy => by simp only [InR, xor_div] at *; exact inR_xor k hx hy
noncomputable def wrt (k : Nat) (f : Nat → Int) : Int := ((List.range k).map fun j => f j * 2 ^ j).sum
theorem wrt_succ (k : Nat) (f : Nat → Int) : wrt (k + 1) f = f 0 + 2 * wrt k (fun j => f (j + 1)) := by
  unfold wrt
  rw [List.range_succ_eq_map, List.map_cons, List.map_map, List.sum_cons]
  have h : ∀ l : List Nat, (l.map ((fun j => f j * (2 : Int) ^ j) ∘ Nat.succ)).sum = 2 * (l.map fun j => f (j + 1) * (2 : Int) ^ j).sum := by
    intro l
    induction l with
    | nil => rfl
    | cons a l ih =>
      simp only [List.map_cons, List.sum_cons, ih, Function.comp, Nat.succ_eq_add_one, Int.pow_succ]
      rw [Int.mul_add, ← Int.mul_assoc, Int.mul_comm _ 2]
  rw [h]; simp
theorem wrt_bits : ∀ (k : Nat) (n : Int), wrt k (bt n) = n - 2 ^ k * (n / 2 ^ k)
  | 0, n => by simp [wrt]
  | k + 1, n => by
    rw [wrt_succ]
    have e : (fun j => bt n (j + 1)) = bt (n / 2) := by funext j; exact bt_succ n j
    rw [e, wrt_bits k (n / 2), bt_zero, Int.pow_succ, Int.mul_comm ((2 : Int) ^ k) 2, ← Int.ediv_ediv_of_nonneg (by decide)]
    generalize n / 2 / 2 ^ k = q
    rw [Int.mul_assoc, Int.mul_sub]
    generalize 2 ^ k * q = z
    lia
theorem inR_top : ∀ (k : Nat) (n : Int), InR k n → n / 2 ^ k = 0 ∨ n / 2 ^ k = -1
  | 0, n, h => by simpa [InR] using h
  | k + 1, n, h => by
    rw [Int.pow_succ, Int.mul_comm, ← Int.ediv_ediv_of_nonneg (by decide)]
    exact inR_top k _ h
theorem wrt_all {k : Nat} {n : Int} (h : InR k n) : wrt k (bt n) - bt n k * 2 ^ k = n := by
  rw [wrt_bits]
  have h2 : bt n k = -(n / 2 ^ k) := by unfold bt; have := inR_top k n h; lia
  rw [h2, Int.neg_mul, Int.mul_comm (n / 2 ^ k)]
  generalize 2 ^ k * (n / 2 ^ k) = z
  lia
noncomputable def cnt (ns : List Int) (j : Nat) : Int := (ns.map fun n => bt n j).sum
theorem cnt_nil (j : Nat) : cnt [] j = 0 := rfl
theorem cnt_cons (n : Int) (ns : List Int) (j : Nat) : cnt (n :: ns) j = bt n j + cnt ns j := by simp [cnt]
theorem cnt_le (ns : List Int) (j : Nat) : 0 ≤ cnt ns j ∧ cnt ns j ≤ ns.length := by
  induction ns with
  | nil => simp [cnt_nil]
  | cons n ns ih => rw [cnt_cons, List.length_cons]; have := bt_01 n j; lia
theorem pqfa1 {b c : Int} {l : Nat} (q : b = 1) (h : c = (l : Int)) : b + c = ((l + 1 : Nat) : Int) := by lia
theorem pqfa2 {b c : Int} {l : Nat} (q : b = 1) (h : b + c = ((l + 1 : Nat) : Int)) : c = (l : Int) := by lia
theorem pqfa3 {b c : Int} {l : Nat} (q : b = 0) (h : c ≤ (l : Int)) (e : b + c = ((l + 1 : Nat) : Int)) : False := by lia
theorem pqfo1 {b c : Int} (q : b = 1) (h : 0 ≤ c) : 0 < b + c := by lia
theorem pqfo2 {b c : Int} (q : b = 0) (h : 0 < c) : 0 < b + c := by lia
theorem fold_and (ns : List Int) (a : Int) (j : Nat) : (bt (ns.foldl (fun a n => Builtin.bitAnd a n) a) j = 1 ∧ bt a j = 1 ∧ cnt ns j = ns.length) ∨ (bt (ns.foldl (fun a n => Builtin.bitAnd a n) a) j = 0 ∧ ¬ (bt a j = 1 ∧ cnt ns j = ns.length)) := by
  induction ns generalizing a with
  | nil => simp only [List.foldl_nil, cnt_nil, List.length_nil]; have := bt_01 a j; lia
  | cons n ns ih =>
    have h3 := cnt_le ns j
    rw [List.foldl_cons, cnt_cons, List.length_cons]
    rcases ih (Builtin.bitAnd a n) with ⟨e, b, c⟩ | ⟨e, b⟩ <;> rcases bt_and j a n with ⟨p, q, r⟩ | ⟨p, q⟩
    · exact Or.inl ⟨e, p, pqfa1 q c⟩
    · rw [q] at b; cases b
    · exact Or.inr ⟨e, fun h => b ⟨r, pqfa2 q h.2⟩⟩
    · refine Or.inr ⟨e, fun h => ?_⟩
      rcases p with p | p
      · rw [p] at h; cases h.1
      · exact pqfa3 p h3.2 h.2
theorem fold_or (ns : List Int) (a : Int) (j : Nat) : (bt (ns.foldl (fun a n => Builtin.bitOr a n) a) j = 1 ∧ (bt a j = 1 ∨ 0 < cnt ns j)) ∨ (bt (ns.foldl (fun a n => Builtin.bitOr a n) a) j = 0 ∧ bt a j = 0 ∧ cnt ns j = 0) := by
  induction ns generalizing a with
  | nil => rcases bt_01 a j with h | h <;> simp [h, cnt_nil]
  | cons n ns ih =>
    have h3 := cnt_le ns j
    rw [List.foldl_cons, cnt_cons]
    rcases ih (Builtin.bitOr a n) with ⟨e, b⟩ | ⟨e, b, c⟩ <;> rcases bt_or j a n with ⟨p, q⟩ | ⟨p, q, r⟩
    · refine Or.inl ⟨e, ?_⟩
      rcases p with p | p
      · exact Or.inl p
      · exact Or.inr (pqfo1 p h3.1)
    · refine Or.inl ⟨e, ?_⟩
      rcases b with b | b
      · rw [r] at b; cases b
      · exact Or.inr (pqfo2 q b)
    · rw [q] at b; cases b
    · exact Or.inr ⟨e, p, by rw [q, c]; rfl⟩
theorem fold_xor (ns : List Int) (a : Int) (j : Nat) : bt (ns.foldl (fun a n => Builtin.bitXor a n) a) j = (bt a j + cnt ns j) % 2 := by
  induction ns generalizing a with
  | nil => simp only [List.foldl_nil, cnt_nil]; have := bt_01 a j; lia
  | cons n ns ih =>
    have h1 := ih (Builtin.bitXor a n)
    have h2 := bt_xor j a n
    simp only [List.foldl_cons, cnt_cons] at *
    lia
theorem inR_fold {f : Int → Int → Int} {k : Nat} (hf : ∀ {x y : Int}, InR k x → InR k y → InR k (f x y)) : ∀ (ns : List Int) (a : Int), InR k a → (∀ n ∈ ns, InR k n) → InR k (ns.foldl f a)
  | [], a, h, _ => h
  | n :: ns, a, h, hn => inR_fold hf ns _ (hf h (hn n (List.mem_cons_self ..))) fun m hm => hn m (List.mem_cons_of_mem _ hm)
theorem bt_m1 (j : Nat) : bt (-1) j = 1 := by
  induction j with
  | zero => rfl
  | succ j ih => rw [bt_succ]; exact ih
theorem bt_0 (j : Nat) : bt 0 j = 0 := by
  induction j with
  | zero => rfl
  | succ j ih => rw [bt_succ]; exact ih
theorem inR_0 (k : Nat) : InR k 0 := by rw [inR_iff]; have : (0 : Int) < 2 ^ k := Int.pow_pos (by decide); lia
theorem inR_m1 (k : Nat) : InR k (-1) := by rw [inR_iff]; have : (0 : Int) < 2 ^ k := Int.pow_pos (by decide); lia
theorem worth_and {ns : List Int} {k : Nat} (h : ∀ n ∈ ns, InR k n) : (wrt k fun j => if cnt ns j = ns.length then 1 else 0) - (if cnt ns k = ns.length then 1 else 0) * 2 ^ k = ns.foldl (fun a n => Builtin.bitAnd a n) (-1) := by
  have e : ∀ j, (if cnt ns j = ns.length then (1 : Int) else 0) = bt (ns.foldl (fun a n => Builtin.bitAnd a n) (-1)) j := by
    intro j; have h1 := fold_and ns (-1) j; have h2 := bt_m1 j; split <;> lia
  simp only [e]
  exact wrt_all (inR_fold (inR_and k) ns _ (inR_m1 k) h)
theorem worth_or {ns : List Int} {k : Nat} (h : ∀ n ∈ ns, InR k n) : (wrt k fun j => if cnt ns j > 0 then 1 else 0) - (if cnt ns k > 0 then 1 else 0) * 2 ^ k = ns.foldl (fun a n => Builtin.bitOr a n) 0 := by
  have e : ∀ j, (if cnt ns j > 0 then (1 : Int) else 0) = bt (ns.foldl (fun a n => Builtin.bitOr a n) 0) j := by
    intro j; have h1 := fold_or ns 0 j; have h2 := bt_0 j; split <;> lia
  simp only [e]
  exact wrt_all (inR_fold (inR_or k) ns _ (inR_0 k) h)
theorem worth_xor {ns : List Int} {k : Nat} (h : ∀ n ∈ ns, InR k n) : (wrt k fun j => cnt ns j % 2) - cnt ns k % 2 * 2 ^ k = ns.foldl (fun a n => Builtin.bitXor a n) 0 := by
  have e : ∀ j, cnt ns j % 2 = bt (ns.foldl (fun a n => Builtin.bitXor a n) 0) j := by
    intro j; have h1 := fold_xor ns 0 j; have h2 := bt_0 j; lia
  simp only [e]
  exact wrt_all (inR_fold (inR_xor k) ns _ (inR_0 k) h)
end Mine.Internal
namespace Mine.Internal
theorem bitL_getD (n : Int) {j : Nat} (hj : j < 90) : (BitL n).getD (0 + (j : Int)).toNat 0 = bt n j := by
  rw [show (0 + (j : Int)).toNat = j by omega, List.getD_eq_getElem?_getD, List.getElem?_map, List.getElem?_range hj]
  show Int.fmod (Int.fdiv n (2 ^ (j : Int).toNat)) 2 = _
  exact bt_def n j
theorem sumL_eq (ns : List Int) : ((List.range 90).map fun (j : Nat) => (ns.map fun n => (BitL n).getD (0 + (j : Int)).toNat 0).sum) = (List.range 90).map (cnt ns) := by
  apply List.map_congr_left
  intro j hj
  have hj' : j < 90 := List.mem_range.mp hj
  unfold cnt
  congr 1
  apply List.map_congr_left
  intro n _
  exact bitL_getD n hj'
theorem worth_eq (ns : List Int) (f : Int → Int) : ((List.range 89).map fun j => ((((List.range 90).map fun (j : Nat) => (ns.map fun n => (BitL n).getD (0 + (j : Int)).toNat 0).sum)).map f).getD j 0 * 2 ^ ((j : Int)).toNat).sum - ((((List.range 90).map fun (j : Nat) => (ns.map fun n => (BitL n).getD (0 + (j : Int)).toNat 0).sum)).map f).getD (Int.toNat 89) 0 * 2 ^ Int.toNat 89
    = (wrt 89 fun j => f (cnt ns j)) - f (cnt ns 89) * 2 ^ 89 := by
  rw [sumL_eq, List.map_map]
  have e : ∀ j, j < 90 → (((List.range 90).map (f ∘ cnt ns))).getD j 0 = f (cnt ns j) := fun j hj => by
    rw [List.getD_eq_getElem?_getD, List.getElem?_map, List.getElem?_range hj]; rfl
  congr 1
theorem inR_of_bits {n : Int} (h : Builtin.Int.intBits n ≤ 70) : InR 89 n := by
  rw [inR_iff]
  have h1 := intBits_le_iff.mp h
  have h2 : (2 : Nat) ^ 70 ≤ 2 ^ 89 := Nat.pow_le_pow_right (by decide) (by decide)
  have h3 : ((2 ^ 89 : Nat) : Int) = (2 : Int) ^ 89 := by norm_cast
  omega
theorem due_and {ns : List Int} {k : Nat} (B : Sm ns) (hk : k = ns.length) : ns.foldl (fun a n => Builtin.bitAnd a n) (-1) = ((List.range 89).map fun j => ((((List.range 90).map fun (j : Nat) => (ns.map fun n => (BitL n).getD (0 + (j : Int)).toNat 0).sum)).map fun b => if (b == (k : Int)) = true then 1 else 0).getD j 0 * 2 ^ ((j : Int)).toNat).sum - ((((List.range 90).map fun (j : Nat) => (ns.map fun n => (BitL n).getD (0 + (j : Int)).toNat 0).sum)).map fun b => if (b == (k : Int)) = true then 1 else 0).getD (Int.toNat 89) 0 * 2 ^ Int.toNat 89 := by
  rw [worth_eq, ← worth_and fun n hn => inR_of_bits (B.2 n hn), hk]
  simp only [beq_iff_eq]
theorem due_or {ns : List Int} (B : Sm ns) : ns.foldl (fun a n => Builtin.bitOr a n) 0 = ((List.range 89).map fun j => ((((List.range 90).map fun (j : Nat) => (ns.map fun n => (BitL n).getD (0 + (j : Int)).toNat 0).sum)).map fun b => if decide (0 < b) = true then 1 else 0).getD j 0 * 2 ^ ((j : Int)).toNat).sum - ((((List.range 90).map fun (j : Nat) => (ns.map fun n => (BitL n).getD (0 + (j : Int)).toNat 0).sum)).map fun b => if decide (0 < b) = true then 1 else 0).getD (Int.toNat 89) 0 * 2 ^ Int.toNat 89 := by
  rw [worth_eq, ← worth_or fun n hn => inR_of_bits (B.2 n hn)]
  simp only [decide_eq_true_eq, gt_iff_lt]
theorem due_xor {ns : List Int} (B : Sm ns) : ns.foldl (fun a n => Builtin.bitXor a n) 0 = ((List.range 89).map fun j => ((((List.range 90).map fun (j : Nat) => (ns.map fun n => (BitL n).getD (0 + (j : Int)).toNat 0).sum)).map fun b => Int.fmod b 2).getD j 0 * 2 ^ ((j : Int)).toNat).sum - ((((List.range 90).map fun (j : Nat) => (ns.map fun n => (BitL n).getD (0 + (j : Int)).toNat 0).sum)).map fun b => Int.fmod b 2).getD (Int.toNat 89) 0 * 2 ^ Int.toNat 89 := by
  rw [worth_eq, ← worth_xor fun n hn => inR_of_bits (B.2 n hn)]
  simp only [Int.fmod_eq_emod_of_nonneg _ (show (0 : Int) ≤ 2 by decide)]
theorem map01 {l : List Int} {f : Int → Int} (hf : ∀ b, f b = 0 ∨ f b = 1) : ∀ (i : Nat) (n : Int), (l.map f)[i]? = some n → n = 0 ∨ n = 1 := fun i n e => by
  rw [List.getElem?_map] at e
  cases q : l[i]? with
  | none => rw [q] at e; cases e
  | some b => rw [q] at e; cases e; exact hf b
theorem list3 {a b c a' b' c' : Int} (h1 : a = a') (h2 : b = b') (h3 : c = c') : [a, b, c] = [a', b', c'] := by rw [h1, h2, h3]
end Mine.Internal
namespace Mine.Internal
theorem chain_law {ks ns : List Int} {b : Nat → Bool} {n : Nat} (hn : n = ns.length - 1) (h : ∀ (i : Nat) (a c : Int), ns[i]? = some a → ns[i + 1]? = some c → ((ks.any fun x => x == b2i (decide (c < a)) - b2i (decide (a < c))) = !(b i))) :
    chainV ks ns = decide (((List.range n).filter b).map (fun _ => (1 : Int)) = []) := by
  have e1 : (((List.range n).filter b).map (fun _ => (1 : Int)) = []) ↔ ∀ i, i < n → b i = false := by
    rw [List.map_eq_nil_iff, List.filter_eq_nil_iff]
    simp only [List.mem_range, Bool.not_eq_true]
  have e2 : chainV ks ns = true ↔ ∀ i, i < n → b i = false := by
    unfold chainV
    rw [List.all_eq_true]
    constructor
    · intro q i hi
      have h1 : i < ns.length := by omega
      have h2 : i + 1 < ns.length := by omega
      have hm : (ns[i], ns[i + 1]) ∈ ns.zip (ns.drop 1) := by
        refine List.mem_of_getElem? (i := i) ?_
        rw [List.getElem?_zip_eq_some]
        exact ⟨List.getElem?_eq_getElem h1, by rw [List.getElem?_drop, Nat.add_comm]; exact List.getElem?_eq_getElem h2⟩
      have := q _ hm
      rw [h i _ _ (List.getElem?_eq_getElem h1) (List.getElem?_eq_getElem h2)] at this
      simpa using this
    · intro q p hp
      obtain ⟨i, hi⟩ := List.getElem?_of_mem hp
      obtain ⟨a, c⟩ := p
      rw [List.getElem?_zip_eq_some] at hi
      obtain ⟨h1, h2⟩ := hi
      rw [List.getElem?_drop, Nat.add_comm] at h2
      have hlt : i + 1 < ns.length := (List.getElem?_eq_some_iff.mp h2).1
      show (ks.any fun x => x == b2i (decide (c < a)) - b2i (decide (a < c))) = true
      rw [h i a c h1 h2, q i (by omega)]; rfl
  rw [Bool.eq_iff_iff, decide_eq_true_iff, e1, e2]
theorem getD_of {ns : List Int} {i : Nat} {a : Int} (h : ns[i]? = some a) : ns.getD i 0 = a := by rw [List.getD_eq_getElem?_getD, h]; rfl
theorem chain1 {ns : List Int} {n : Nat} (hn : n = ns.length - 1) : chainV [-1] ns = decide (((List.range n).filter fun i => !decide (ns.getD i 0 < ns.getD (i + 1) 0)).map (fun _ => (1 : Int)) = []) :=
  chain_law hn fun i a c h1 h2 => by
    simp only [getD_of h1, getD_of h2, Bool.not_not]
    by_cases q : a < c <;> by_cases q2 : c < a <;> simp [q, q2, b2i] <;> omega
theorem chain2 {ns : List Int} {n : Nat} (hn : n = ns.length - 1) : chainV [1] ns = decide (((List.range n).filter fun i => !decide (ns.getD (i + 1) 0 < ns.getD i 0)).map (fun _ => (1 : Int)) = []) :=
  chain_law hn fun i a c h1 h2 => by
    simp only [getD_of h1, getD_of h2, Bool.not_not]
    by_cases q : a < c <;> by_cases q2 : c < a <;> simp [q, q2, b2i] <;> omega
theorem chain3 {ns : List Int} {n : Nat} (hn : n = ns.length - 1) : chainV [-1, 0] ns = decide (((List.range n).filter fun i => decide (ns.getD (i + 1) 0 < ns.getD i 0)).map (fun _ => (1 : Int)) = []) :=
  chain_law hn fun i a c h1 h2 => by
    simp only [getD_of h1, getD_of h2]
    by_cases q : a < c <;> by_cases q2 : c < a <;> simp [q, q2, b2i] <;> omega
theorem chain4 {ns : List Int} {n : Nat} (hn : n = ns.length - 1) : chainV [0, 1] ns = decide (((List.range n).filter fun i => decide (ns.getD i 0 < ns.getD (i + 1) 0)).map (fun _ => (1 : Int)) = []) :=
  chain_law hn fun i a c h1 h2 => by
    simp only [getD_of h1, getD_of h2]
    by_cases q : a < c <;> by_cases q2 : c < a <;> simp [q, q2, b2i] <;> omega
theorem chain5 {ns : List Int} {n : Nat} (hn : n = ns.length - 1) : chainV [0] ns = decide (((List.range n).filter fun i => ns.getD i 0 != ns.getD (i + 1) 0).map (fun _ => (1 : Int)) = []) :=
  chain_law hn fun i a c h1 h2 => by
    simp only [getD_of h1, getD_of h2]
    by_cases q : a < c <;> by_cases q2 : c < a <;> by_cases q3 : a = c <;> simp [q, q2, q3, b2i] <;> omega
end Mine.Internal
namespace Mine.Internal
inductive BoolL : List Value → List Bool → Prop
  | nil : BoolL [] []
  | cons {vs : List Value} {bs : List Bool} (b : Bool) : BoolL vs bs → BoolL (.bool b :: vs) (b :: bs)
inductive FlagL : List Value → List Bool → Prop
  | nil : FlagL [] []
  | cons {vs : List Value} {bs : List Bool} (b : Bool) : FlagL vs bs → FlagL (.ref (if b = true then 67 else 64) :: vs) (b :: bs)
theorem BoolL.at {vs : List Value} {bs : List Bool} (x : BoolL vs bs) : ∀ {i : Nat} {v : Value}, vs[i]? = some v → ∃ b, v = .bool b := by
  induction x with
  | nil => intro i v e; simp at e
  | cons b _ ih =>
    intro i v e
    cases i with
    | zero => simp at e; exact ⟨b, e.symm⟩
    | succ i => exact ih (by simpa using e)
theorem FlagL.at {vs : List Value} {bs : List Bool} (x : FlagL vs bs) : ∀ {i : Nat} {v : Value}, vs[i]? = some v → ∃ b : Bool, v = .ref (if b = true then 67 else 64) := by
  induction x with
  | nil => intro i v e; simp at e
  | cons b _ ih =>
    intro i v e
    cases i with
    | zero => simp at e; exact ⟨b, e.symm⟩
    | succ i => exact ih (by simpa using e)
noncomputable def GFlag (f : Bool → Bool) (v y : Value) : Prop := ∀ b : Bool, v = .ref (if b = true then 67 else 64) → y = .bool (f b)
theorem GFlag.of {f : Bool → Bool} {b c : Bool} (h : c = f b) : GFlag f (.ref (if b = true then 67 else 64)) (.bool c) := fun b' e => by
  have : b = b' := by cases b <;> cases b' <;> simp_all
  rw [h, this]
noncomputable def GNot (v y : Value) : Prop := ∀ b : Bool, v = .bool b → y = .bool (!b)
theorem GNot.of {b : Bool} : GNot (.bool b) (.bool (!b)) := fun b' e => by cases e; rfl
theorem flags_made {f : Bool → Bool} {vs ys : List Value} (hp : Paired (GFlag f) vs ys) : ∀ {bs : List Bool}, FlagL vs bs → BoolL ys (bs.map f) := by
  induction hp with
  | nil => intro bs x; cases x; exact .nil
  | cons g _ ih => intro bs x; cases x with | cons b x => rw [g b rfl]; exact .cons _ (ih x)
theorem nots_made {vs ys : List Value} (hp : Paired GNot vs ys) : ∀ {bs : List Bool}, BoolL vs bs → BoolL ys (bs.map not) := by
  induction hp with
  | nil => intro bs x; cases x; exact .nil
  | cons g _ ih => intro bs x; cases x with | cons b x => rw [g b rfl]; exact .cons _ (ih x)
section
open PyProof.V PySem.SeqAt
theorem reads_bools {h : Heap} : ∀ {vs : List Value} {bs : List Bool}, BoolL vs bs → ReadsAll h vs (bs.map PyData.bool) []
  | _, _, .nil => .nil
  | _, _, .cons b r => by
    have := ReadsAll.cons (Reads.bool (h := h) b) (reads_bools (h := h) r)
    simpa using this
theorem lay_bools : ∀ bs : List Bool, PyData.canLayAll0 (bs.map PyData.bool) = true
  | [] => by simp [PyData.canLayAll0]
  | _ :: r => by simp [PyData.canLayAll0, PyData.canLay0, lay_bools r]
theorem depth_bools : ∀ bs : List Bool, PyData.depthAll (bs.map PyData.bool) ≤ 1
  | [] => by simp [PyData.depthAll]
  | _ :: r => by
    have := depth_bools r
    simp only [List.map_cons, PyData.depthAll, PyData.depth]
    lia
theorem shaped_bools (bs : List Bool) : shaped (.list (bs.map PyData.bool)) = true := by
  have h1 := depth_bools bs
  show (PyData.canLay0 (.list (bs.map PyData.bool)) && decide (PyData.depth (.list (bs.map PyData.bool)) ≤ 64)) = true
  rw [Bool.and_eq_true]
  exact ⟨by simp only [PyData.canLay0]; exact lay_bools bs, decide_eq_true (by simp only [PyData.depth]; lia)⟩
theorem noMix_bools : ∀ bs : List Bool, noMixAll (bs.map PyData.bool) (bs.map PyData.bool) = true
  | [] => by simp [noMixAll]
  | _ :: r => by simp [noMixAll, noMix, noMix_bools r]
theorem same_bools : ∀ bs : List Bool, PySem.Spec.sameAll (bs.map PyData.bool) (bs.map PyData.bool) = true
  | [] => by simp [PySem.Spec.sameAll]
  | b :: r => by simp [PySem.Spec.sameAll, PySem.Spec.same, same_bools r]
theorem ne_bools {prog : Program} {w : World} {A : Around} {E : Value → Shared → Prop} {s : Shared} {a b : Addr} {vs us : List Value} {bs cs : List Bool} {Q : Value → Shared → Prop} (hl : s.heap.IsList a vs.toArray) (hi : BoolL vs bs) (hl' : s.heap.IsList b us.toArray) (hi' : BoolL us cs) (hu : A.units + 64 < cLine) (he : bs = cs)
    (h : Q (.bool false) s) : wpAny (model prog w) A (compareOp .NotEq (.ref a) (.ref b)) Q E s := by
  subst he
  obtain ⟨o, ho, hc, n, hd⟩ := hl
  obtain ⟨o', ho', hc', n', hd'⟩ := hl'
  exact ne_dataH_same (Reads.list ho hc hd (by simpa using reads_bools hi)) (Reads.list ho' hc' hd' (by simpa using reads_bools hi')) (shaped_bools bs) (shaped_bools bs) hu (by simp only [noMix]; exact noMix_bools bs) (by simp only [PySem.Spec.same]; rw [same_bools]; exact h)
end
end Mine.Internal
namespace Mine.Internal
noncomputable def GRow (ys : List Value) (ns : List Int) (j : Nat) (v y : Value) : Prop := ∀ (i : Nat) (n : Int), ys[i]? = some v → ns[i]? = some n → ∃ t, y = .int ((BitL n).getD j 0) t
theorem GRow.of {ys : List Value} {ns : List Int} {j : Nat} {v : Value} {n : Int} {t : Tok} (h : ∀ (i' : Nat) (n' : Int), ys[i']? = some v → ns[i']? = some n' → BitL n' = BitL n) : GRow ys ns j v (.int ((BitL n).getD j 0) t) := fun i n' a b => ⟨t, by rw [h i n' a b]⟩
theorem row_made {ys zs : List Value} {ns : List Int} {j : Nat} (hlen : ys.length = ns.length) (hp : Paired (GRow ys ns j) ys zs) : IntsAre zs (ns.map fun n => (BitL n).getD j 0) :=
  paired_ints hlen (fun n => (BitL n).getD j 0) hp fun i _ n _ a b g => g i n a b
noncomputable def GSum (ns : List Int) (v y : Value) : Prop := ∀ i t, v = .int i t → ∃ t', y = .int ((ns.map fun n => (BitL n).getD i.toNat 0).sum) t'
theorem GSum.of {ns : List Int} {i : Int} {t u : Tok} : GSum ns (.int i t) (.int ((ns.map fun n => (BitL n).getD i.toNat 0).sum) u) := fun _ _ e => by cases e; exact ⟨_, rfl⟩
theorem sum_made {ns : List Int} {zs : List Value} (m : Made1 90 (fun i v => ∃ t, v = .int (0 + (i : Int)) t) (GSum ns) zs.toArray) : IntsAre zs ((List.range 90).map fun (j : Nat) => (ns.map fun n => (BitL n).getD (0 + (j : Int)).toNat 0).sum) := by
  refine ints_mk _ _ (by have := m.1; simpa using this) fun j v k a b => ?_
  have hj : j < 90 := by
    have h1 := (List.getElem?_eq_some_iff.mp b).1
    simpa using h1
  rw [List.getElem?_map, List.getElem?_range hj] at b
  obtain ⟨u, ⟨t, rfl⟩, g⟩ := m.2 j v (by simpa using a)
  obtain ⟨t', rfl⟩ := g _ _ rfl
  exact ⟨t', by rw [← Option.some.inj b]⟩
noncomputable def GMap (f : Int → Int) (v y : Value) : Prop := ∀ b t, v = .int b t → ∃ t', y = .int (f b) t'
theorem GMap.of {f : Int → Int} {b : Int} {t t' : Tok} : GMap f (.int b t) (.int (f b) t') := fun _ _ e => by cases e; exact ⟨_, rfl⟩
theorem map_made {vs ys : List Value} {ns : List Int} {f : Int → Int} (I : IntsAre vs ns) (hp : Paired (GMap f) vs ys) : IntsAre ys (ns.map f) :=
  paired_ints (ints_len I) f hp fun i v n y a b g => by
    obtain ⟨t, e⟩ := ints_item I a b
    exact g _ _ e
noncomputable def RTup (v v₂ : Value) (o : Obj) : Prop := o.cls = .type "tuple" ∧ ∃ k, o.data = .seq #[v, v₂] k
noncomputable def PairI (ns : List Int) (i : Nat) (v₁ v₂ : Value) : Prop := ∃ a b t u, v₁ = .int a t ∧ v₂ = .int b u ∧ ns[i]? = some a ∧ ns[i + 1]? = some b
theorem pairs_items {g h : Heap} {L : Addr} {us us1 ys : List Value} {ns : List Int} {n : Nat} {rows news : List (Addr × Obj)} (N : News g L h news) (hs : ∀ p ∈ rows, p ∈ news) (I : IntsAre us ns) (I1 : IntsAre us1 (ns.drop 1)) (hr : RowsAre2 (fun i v v₂ => us[i]? = some v ∧ us1[i]? = some v₂) RTup n ys.toArray rows) :
    ∀ (i : Nat) (v : Value), ys[i]? = some v → ∃ t v₁ v₂, v = .ref t ∧ IsTup h t #[v₁, v₂] ∧ PairI ns i v₁ v₂ := fun i v e => by
  obtain ⟨v₁, v₂, a, o, ⟨p1, p2⟩, rfl, hm, hc, k, hd⟩ := hr.2 i v (by simpa using e)
  obtain ⟨x, t, rfl, hx⟩ := ints_at I p1
  obtain ⟨y, u, rfl, hy⟩ := ints_at I1 p2
  rw [List.getElem?_drop] at hy
  exact ⟨a, _, _, rfl, ⟨o, (N _ (hs _ hm)).1, hc, k, hd⟩, x, y, t, u, rfl, rfl, hx, by rw [Nat.add_comm]; exact hy⟩
end Mine.Internal
namespace Mine.Internal
noncomputable def fnAt (w : World) (a : Addr) : FuncData := match (Mine.hd.heap_39 w.params).lookup a with | some ⟨_, _, .func fd, _⟩ => fd | _ => default
noncomputable def bodyAt (w : World) (a : Addr) : List Stmt := match (fnAt w a).body with | .stmts b => b | _ => []
structure FnIs (w : World) (a : Addr) (name : Str) (scope : Scope) (body : List Stmt) : Prop where
  name : (fnAt w a).name = name
  scope : (fnAt w a).scope = scope
  body : bodyAt w a = body
theorem FnIs.mk' {w : World} {a : Addr} {name qual : Str} {params : Arguments} {body : List Stmt} {scope : Scope} {dV kV doc pm cdv ct oc : Value} {an od : Option Addr} {osl : Array (Option Value)}
    (ho : (Mine.hd.heap_39 w.params).lookup a = some ⟨oc, od, .func (fnOf name qual params body scope dV kV doc pm an cdv ct), osl⟩) : FnIs w a name scope body := by
  have e : fnAt w a = fnOf name qual params body scope dV kV doc pm an cdv ct := by unfold fnAt; rw [ho]
  exact ⟨by rw [e], by rw [e], by unfold bodyAt; rw [e]⟩
theorem FnIs.start {w : World} {a : Addr} {name name' qual : Str} {params : Arguments} {body body' : List Stmt} {scope scope' : Scope} {dV kV doc pm cdv ct oc : Value} {an od : Option Addr} {osl : Array (Option Value)} {P : Str → Scope → List Stmt → Prop} (x : FnIs w a name' scope' body')
    (ho : (Mine.hd.heap_39 w.params).lookup a = some ⟨oc, od, .func (fnOf name qual params body scope dV kV doc pm an cdv ct), osl⟩) (h : P name scope body) : P name' scope' body' := by
  have y := FnIs.mk' ho
  rw [← x.name, ← x.scope, ← x.body, y.name, y.scope, y.body]
  exact h
noncomputable def two2 (n1 : Str) (v1 : Value) (n2 : Str) (v2 : Value) (m : Str → Option Value) : Str → Option Value := fun y => if y = n1 then some v1 else if y = n2 then some v2 else m y
theorem sorted_last {ns zns : List Int} {M : Int} (p : zns.Perm ns) (o : zns.Pairwise (· ≤ ·)) (hM : M ∈ ns) (hx : ∀ a, a ∈ ns → a ≤ M) : zns.getD ((-1 : Int) + (zns.length : Int)).toNat 0 = M := by
  have hl := p.length_eq
  have h0 : 0 < ns.length := List.length_pos_of_mem hM
  have e : ((-1 : Int) + (zns.length : Int)).toNat = ns.length - 1 := by omega
  rw [e]
  obtain ⟨a, b⟩ := ksl_last p o (k := ns.length - 1) (by omega)
  exact Int.le_antisymm (hx _ a) (b _ hM)
theorem sorted_first {ns zns : List Int} {M : Int} (p : zns.Perm ns) (o : zns.Pairwise (· ≤ ·)) (hM : M ∈ ns) (hx : ∀ a, a ∈ ns → M ≤ a) : zns.getD (Int.toNat 0) 0 = M := by
  have h0 : 0 < ns.length := List.length_pos_of_mem hM
  obtain ⟨a, b⟩ := kso_first p o h0
  exact Int.le_antisymm (b _ hM) (hx _ a)
theorem eq_intsT {prog : Program} {w : World} {A : Around} {E : Value → Shared → Prop} {s : Shared} {a b : Addr} {vs us : List Value} {ns ms : List Int} {Q : Value → Shared → Prop} (hl : s.heap.IsList a vs.toArray) (hi : IntsAre vs ns) (hl' : s.heap.IsList b us.toArray) (hi' : IntsAre us ms) (hu : A.units + 64 < cLine) (he : ns = ms)
    (h : Q (.bool true) s) : wpAny (model prog w) A (compareOp .Eq (.ref a) (.ref b)) Q E s := eq_intsK hl hi hl' hi' hu (by simpa [he] using h)
theorem Fr.names {h₀ h : Heap} {L : Addr} {m m' : Str → Option Value} (F : Fr h₀ L h m) (e : m = m') : Fr h₀ L h m' := e ▸ F
theorem one_eq {n1 : Str} {v1 : Value} {m : Str → Option Value} (h1 : m n1 = some v1) : m = fun y => if y = n1 then some v1 else m y := by
  funext y
  by_cases e1 : y = n1
  · rw [if_pos e1, e1, h1]
  · rw [if_neg e1]
theorem sorted_two {ns z1 z2 : List Int} {M m : Int} (p1 : z1.Perm ns) (o1 : z1.Pairwise (· ≤ ·)) (p2 : z2.Perm ns) (o2 : z2.Pairwise (· ≤ ·)) (hM : M ∈ ns) (hx : ∀ a, a ∈ ns → a ≤ M) (hm : m ∈ ns) (hn : ∀ a, a ∈ ns → m ≤ a) :
    [M, m] = [z1.getD ((-1 : Int) + (z1.length : Int)).toNat 0, z2.getD (Int.toNat 0) 0] := by
  rw [sorted_last p1 o1 hM hx, sorted_first p2 o2 hm hn]
theorem FnIs.begin {w : World} {a : Addr} {name name' qual : Str} {params : Arguments} {body body' : List Stmt} {scope scope' : Scope} {dV kV doc pm cdv ct oc : Value} {an od : Option Addr} {osl : Array (Option Value)} {P : Str → Scope → List Stmt → Prop} (x : FnIs w a name' scope' body')
    (ho : (Mine.hd.heap_39 w.params).lookup a = some ⟨oc, od, .func (fnOf name qual params body scope dV kV doc pm an cdv ct), osl⟩) (h : FnIs w a name scope body → P name scope body) : P name' scope' body' := by
  have y := FnIs.mk' ho
  rw [← x.name, ← x.scope, ← x.body, y.name, y.scope, y.body]
  exact h y
theorem News.partF {g h : Heap} {L : Addr} {all news : List (Addr × Obj)} (N : News g L h all) (sub : ∀ p ∈ news, p ∈ all) : News g L h news := fun p hp => N p (sub p hp)
end Mine.Internal
namespace Mine.Internal
namespace fold_tail_e
noncomputable def zzQ (w : World) (name : Str) (scope : Scope) (body : List Stmt) (L : Addr) (a : Addr) (a2 : Addr) (B : Heap) (h0 : Heap) (g : Heap) (h : Heap) (l : List Env) (s : Shared) (tk : Nat) (m : Str → Option Value) (ps : Array Value) (so : Obj) (vs : List Value) (us : List Value) (ns : List Int) : Prop := ∀ hb : FnIs w 752 name scope body, ∀ S : Std w g, ∀ zC : CodeHd g 751 749, ∀ G : Gr B h0 g l, ∀ F : Fr g L h fun y => if y = Str.ofString "worths" then some (.ref a2) else m y, ∀ N : News g L h [(L + 1, so), (749, tabObj ps)], ∀ hso : so.data = .cell (some (.ref a)), ∀ hps : TriplesOk ps.toList, ∀ hlt : @LT.lt Nat _ 749 L, ∀ zlg : g.IsList a vs.toArray, ∀ zlg2 : g.IsList a2 us.toArray, ∀ zVg : NumsAt g vs ns, ∀ hI : IntsAre us ns, ∀ Bd : Sm ns, wpAny (model Challenge.rw_np0089_01.row.prog w) ((AtR 350 l).deeper (envOfC name scope L 752 (.ref 751))) (execs (body.drop 8) (envOfC name scope L 752 (.ref 751))) (fun fl s' => RetT B h0 749 (fun v _ => v = .bool true) s (flv fl) s') (fun _ _ => False) { s with heap := h, toks := tk }
noncomputable abbrev zzT : Type := World × Str × Scope × (List Stmt) × Addr × Addr × Addr × Heap × Heap × Heap × Heap × (List Env) × Shared × Nat × (Str → Option Value) × (Array Value) × Obj × (List Value) × (List Value) × (List Int)
noncomputable def zzS (z : zzT) : Prop := zzQ z.1 z.2.1 z.2.2.1 z.2.2.2.1 z.2.2.2.2.1 z.2.2.2.2.2.1 z.2.2.2.2.2.2.1 z.2.2.2.2.2.2.2.1 z.2.2.2.2.2.2.2.2.1 z.2.2.2.2.2.2.2.2.2.1 z.2.2.2.2.2.2.2.2.2.2.1 z.2.2.2.2.2.2.2.2.2.2.2.1 z.2.2.2.2.2.2.2.2.2.2.2.2.1 z.2.2.2.2.2.2.2.2.2.2.2.2.2.1 z.2.2.2.2.2.2.2.2.2.2.2.2.2.2.1 z.2.2.2.2.2.2.2.2.2.2.2.2.2.2.2.1 z.2.2.2.2.2.2.2.2.2.2.2.2.2.2.2.2.1 z.2.2.2.2.2.2.2.2.2.2.2.2.2.2.2.2.2.1 z.2.2.2.2.2.2.2.2.2.2.2.2.2.2.2.2.2.2.1 z.2.2.2.2.2.2.2.2.2.2.2.2.2.2.2.2.2.2.2
noncomputable def zzc : zzT := @Classical.epsilon zzT ⟨(zw, cN, cN, cN, cN, cN, cN, cN, cN, cN, cN, cN, zs, cN, cN, cN, cN, cN, cN, cN)⟩ fun z => ¬ zzS z
@[irreducible] def w : World := zzc.1
@[irreducible] def name : Str := zzc.2.1
@[irreducible] def scope : Scope := zzc.2.2.1
@[irreducible] def body : List Stmt := zzc.2.2.2.1
@[irreducible] def L : Addr := zzc.2.2.2.2.1
@[irreducible] def a : Addr := zzc.2.2.2.2.2.1
@[irreducible] def a2 : Addr := zzc.2.2.2.2.2.2.1
@[irreducible] def B : Heap := zzc.2.2.2.2.2.2.2.1
@[irreducible] def h0 : Heap := zzc.2.2.2.2.2.2.2.2.1
@[irreducible] def g : Heap := zzc.2.2.2.2.2.2.2.2.2.1
@[irreducible] def h : Heap := zzc.2.2.2.2.2.2.2.2.2.2.1
@[irreducible] def l : List Env := zzc.2.2.2.2.2.2.2.2.2.2.2.1
@[irreducible] def s : Shared := zzc.2.2.2.2.2.2.2.2.2.2.2.2.1
@[irreducible] def tk : Nat := zzc.2.2.2.2.2.2.2.2.2.2.2.2.2.1
@[irreducible] def m : Str → Option Value := zzc.2.2.2.2.2.2.2.2.2.2.2.2.2.2.1
@[irreducible] def ps : Array Value := zzc.2.2.2.2.2.2.2.2.2.2.2.2.2.2.2.1
@[irreducible] def so : Obj := zzc.2.2.2.2.2.2.2.2.2.2.2.2.2.2.2.2.1
@[irreducible] def vs : List Value := zzc.2.2.2.2.2.2.2.2.2.2.2.2.2.2.2.2.2.1
@[irreducible] def us : List Value := zzc.2.2.2.2.2.2.2.2.2.2.2.2.2.2.2.2.2.2.1
@[irreducible] def ns : List Int := zzc.2.2.2.2.2.2.2.2.2.2.2.2.2.2.2.2.2.2.2
theorem zzcore : zzQ w name scope body L a a2 B h0 g h l s tk m ps so vs us ns := by
 k_with "e_q" =>
  intro hb S zC G F N hso hps hlt zlg zlg2 zVg hI Bd
  have zOn : ZOn := .mk
  have hus4 : us.length ≤ 4 := by rw [ints_len hI]; exact Bd.1
  have hns10 : ns.length ≤ 10 := by have := Bd.1; lia
  refine hb.start (P := fun name scope body => wpAny (model Challenge.rw_np0089_01.row.prog w) ((AtR 350 l).deeper (envOfC name scope L 752 (.ref 751))) (execs (body.drop 8) (envOfC name scope L 752 (.ref 751))) (fun fl s' => RetT B h0 749 (fun v _ => v = .bool true) s (flv fl) s') (fun _ _ => False) { s with heap := h, toks := tk }) (by k_is) ?_
  dsimp only [List.drop]
  have zX := Std.X S
  have zT := Std.top S
  have hG6 : CompP ⟨444, 7, 444, 34⟩ (GFlag id) := .mk
  have hG7 : CompP ⟨444, 45, 444, 74⟩ (GFlag not) := .mk
  have hG8 : CompP ⟨444, 78, 444, 102⟩ GNot := .mk
  have hb3 : BlkAt ⟨439, 12, 439, 68⟩ := .mk
  have hR3 : RowsP2 ⟨439, 12, 439, 68⟩ RTup := .mk
  have hbt1 : BlkAt ⟨440, 11, 440, 57⟩ := .mk
  have hbt2 : BlkAt ⟨440, 65, 440, 111⟩ := .mk
  have hbt3 : BlkAt ⟨441, 17, 441, 59⟩ := .mk
  have hbt4 : BlkAt ⟨441, 67, 441, 109⟩ := .mk
  have hbt5 : BlkAt ⟨442, 15, 442, 58⟩ := .mk
  have ht1 : TestP ⟨440, 11, 440, 57⟩ (fun i => !decide (ns.getD i 0 < ns.getD (i + 1) 0)) := .mk
  have ht2 : TestP ⟨440, 65, 440, 111⟩ (fun i => !decide (ns.getD (i + 1) 0 < ns.getD i 0)) := .mk
  have ht3 : TestP ⟨441, 17, 441, 59⟩ (fun i => decide (ns.getD (i + 1) 0 < ns.getD i 0)) := .mk
  have ht4 : TestP ⟨441, 67, 441, 109⟩ (fun i => decide (ns.getD i 0 < ns.getD (i + 1) 0)) := .mk
  have ht5 : TestP ⟨442, 15, 442, 58⟩ (fun i => ns.getD i 0 != ns.getD (i + 1) 0) := .mk
  k_with "m_beq" => (have zpl : zps9.length = ns.length - 1 := zps8; (simp only [chain1 zpl, chain2 zpl, chain3 zpl, chain4 zpl, chain5 zpl]); rw [zps7])
  k_with "m_pairs" => exact pairs_items (by assumption) (by intro p hp; simp only [List.mem_cons, List.not_mem_nil, or_false] at hp; rcases hp with rfl | rfl | rfl | rfl <;> k_mem) hI (by assumption : IntsAre _ (List.drop 1 ns)) zrw
  k_with "m_tclose" => (simp only [ze3, ze4, gt_iff_lt]; done)
  k_with "m_close" => exact congrArg Value.bool (by assumption)
  k_with "m_eqT" => exact sorted_two (by with_reducible assumption) (by with_reducible assumption) (by with_reducible assumption) (by with_reducible assumption) (by assumption) (by assumption) (by assumption) (by assumption)
  k_with "m_size" => first | exact Nat.le_of_ble_eq_true rfl | lia
  k_with "m_elt" => first
    | ((have zq9 := (zP : PairI ns _ _ _); replace zq9 := epsX zq9; generalize zXc _ _ = zxa at zq9; replace zq9 := epsX zq9; generalize zXc _ _ = zxb at zq9; replace zq9 := epsX zq9; generalize zXc _ _ = zxt at zq9; replace zq9 := epsX zq9; generalize zXc _ _ = zxu at zq9; obtain ⟨zx1, zq9⟩ := zq9; obtain ⟨zx2, zq9⟩ := zq9; obtain ⟨zx3, zq9⟩ := zq9; have zx4 := zq9; clear zq9); subst zx1; subst zx2; have ze3 : ns.getD zi 0 = zxa := (by rw [List.getD_eq_getElem?_getD, zx3]; rfl); have ze4 : ns.getD (zi + 1) 0 = zxb := (by rw [List.getD_eq_getElem?_getD, zx4]; rfl))
    | ((have zq9 := FlagL.at (.cons _ (.cons _ (.cons _ (.cons _ (.cons _ .nil))))) zP; replace zq9 := epsX zq9; generalize zXc _ _ = zb9 at zq9; have zv9 := zq9; clear zq9); subst zv9)
    | ((have zq9 := BoolL.at (.cons _ (.cons _ (.cons _ (.cons _ (.cons _ .nil))))) zP; replace zq9 := epsX zq9; generalize zXc _ _ = zb9 at zq9; have zv9 := zq9; clear zq9); subst zv9)
  k_with "m_eclose" => first | exact ⟨rfl, _, rfl⟩ | exact GFlag.of rfl | exact GNot.of
  k_with "m_made" => first
    | (have zps : zys.length = min us.length _ := zrw.1; have zps4 : zys.length ≤ 4 := (by lia); have zq1 := ints_len hI; have zq2 := ints_len (by assumption : IntsAre _ (List.drop 1 ns)); simp only [List.length_drop] at zq2; have zps8 : zys.length = ns.length - 1 := (by lia); obtain ⟨zps9, zps7⟩ : ∃ z, z = zys := ⟨_, rfl⟩; rw [← zps7] at zps8)
    | (have zBm := flags_made zpr (.cons _ (.cons _ (.cons _ (.cons _ (.cons _ .nil))))); (try simp only [List.map_cons, List.map_nil, id] at zBm))
    | (have zBm := nots_made zpr (.cons _ (.cons _ (.cons _ (.cons _ (.cons _ .nil))))); (try simp only [List.map_cons, List.map_nil] at zBm))
  k_steps
  all_goals first | walk_at "m_tend" | ((try dsimp only); wrow_close) | skip
 k_extra "e_Q"
end fold_tail_e
theorem fold_tail {w : World} {name : Str} {scope : Scope} {body : List Stmt} {L a a2 : Addr} {B h0 g h : Heap} {l : List Env} {s : Shared} {tk : Nat} {m : Str → Option Value} {ps : Array Value} {so : Obj} {vs us : List Value} {ns : List Int} (hb : FnIs w 752 name scope body) (S : Std w g) (zC : CodeHd g 751 749) (G : Gr B h0 g l) (F : Fr g L h fun y => if y = Str.ofString "worths" then some (.ref a2) else m y)
    (N : News g L h [(L + 1, so), (749, tabObj ps)]) (hso : so.data = .cell (some (.ref a))) (hps : TriplesOk ps.toList) (hlt : @LT.lt Nat _ 749 L) (zlg : g.IsList a vs.toArray) (zlg2 : g.IsList a2 us.toArray) (zVg : NumsAt g vs ns) (hI : IntsAre us ns) (Bd : Sm ns) : wpAny (model Challenge.rw_np0089_01.row.prog w) ((AtR 350 l).deeper (envOfC name scope L 752 (.ref 751))) (execs (body.drop 8) (envOfC name scope L 752 (.ref 751))) (fun fl s' => RetT B h0 749 (fun v _ => v = .bool true) s (flv fl) s') (fun _ _ => False) { s with heap := h, toks := tk } := epsU (P := fold_tail_e.zzS) (by with_unfolding_all exact fold_tail_e.zzcore) (w, name, scope, body, L, a, a2, B, h0, g, h, l, s, tk, m, ps, so, vs, us, ns) hb S zC G F N hso hps hlt zlg zlg2 zVg hI Bd
end Mine.Internal
namespace Mine.Internal
namespace fold_mid_e
noncomputable def zzQ (w : World) (name : Str) (scope : Scope) (body : List Stmt) (L : Addr) (a : Addr) (a2 : Addr) (B : Heap) (h0 : Heap) (g : Heap) (h : Heap) (l : List Env) (s : Shared) (tk : Nat) (m : Str → Option Value) (ps : Array Value) (so : Obj) (lo : Obj) (vs : List Value) (us : List Value) (ns : List Int) : Prop := ∀ hb : FnIs w 752 name scope body, ∀ S : Std w g, ∀ zC : CodeHd g 751 749, ∀ G : Gr B h0 g l, ∀ F : Fr g L h fun y => if y = Str.ofString "worths" then some (.ref a2) else m y, ∀ N : News g L h [(L + 1, so), (L + 2, lo), (749, tabObj ps)], ∀ hso : so.data = .cell (some (.ref a)), ∀ hlo : lo.data = .cell none, ∀ hps : TriplesOk ps.toList, ∀ hlt : @LT.lt Nat _ 749 L, ∀ zlg : g.IsList a vs.toArray, ∀ zlg2 : g.IsList a2 us.toArray, ∀ zVg : NumsAt g vs ns, ∀ hI : IntsAre us ns, ∀ Bd : Sm ns, wpAny (model Challenge.rw_np0089_01.row.prog w) ((AtR 350 l).deeper (envOfC name scope L 752 (.ref 751))) (execs (body.drop 3) (envOfC name scope L 752 (.ref 751))) (fun fl s' => RetT B h0 749 (fun v _ => v = .bool true) s (flv fl) s') (fun _ _ => False) { s with heap := h, toks := tk }
noncomputable abbrev zzT : Type := World × Str × Scope × (List Stmt) × Addr × Addr × Addr × Heap × Heap × Heap × Heap × (List Env) × Shared × Nat × (Str → Option Value) × (Array Value) × Obj × Obj × (List Value) × (List Value) × (List Int)
noncomputable def zzS (z : zzT) : Prop := zzQ z.1 z.2.1 z.2.2.1 z.2.2.2.1 z.2.2.2.2.1 z.2.2.2.2.2.1 z.2.2.2.2.2.2.1 z.2.2.2.2.2.2.2.1 z.2.2.2.2.2.2.2.2.1 z.2.2.2.2.2.2.2.2.2.1 z.2.2.2.2.2.2.2.2.2.2.1 z.2.2.2.2.2.2.2.2.2.2.2.1 z.2.2.2.2.2.2.2.2.2.2.2.2.1 z.2.2.2.2.2.2.2.2.2.2.2.2.2.1 z.2.2.2.2.2.2.2.2.2.2.2.2.2.2.1 z.2.2.2.2.2.2.2.2.2.2.2.2.2.2.2.1 z.2.2.2.2.2.2.2.2.2.2.2.2.2.2.2.2.1 z.2.2.2.2.2.2.2.2.2.2.2.2.2.2.2.2.2.1 z.2.2.2.2.2.2.2.2.2.2.2.2.2.2.2.2.2.2.1 z.2.2.2.2.2.2.2.2.2.2.2.2.2.2.2.2.2.2.2.1 z.2.2.2.2.2.2.2.2.2.2.2.2.2.2.2.2.2.2.2.2
noncomputable def zzc : zzT := @Classical.epsilon zzT ⟨(zw, cN, cN, cN, cN, cN, cN, cN, cN, cN, cN, cN, zs, cN, cN, cN, cN, cN, cN, cN, cN)⟩ fun z => ¬ zzS z
@[irreducible] def w : World := zzc.1
@[irreducible] def name : Str := zzc.2.1
@[irreducible] def scope : Scope := zzc.2.2.1
@[irreducible] def body : List Stmt := zzc.2.2.2.1
@[irreducible] def L : Addr := zzc.2.2.2.2.1
@[irreducible] def a : Addr := zzc.2.2.2.2.2.1
@[irreducible] def a2 : Addr := zzc.2.2.2.2.2.2.1
@[irreducible] def B : Heap := zzc.2.2.2.2.2.2.2.1
@[irreducible] def h0 : Heap := zzc.2.2.2.2.2.2.2.2.1
@[irreducible] def g : Heap := zzc.2.2.2.2.2.2.2.2.2.1
@[irreducible] def h : Heap := zzc.2.2.2.2.2.2.2.2.2.2.1
@[irreducible] def l : List Env := zzc.2.2.2.2.2.2.2.2.2.2.2.1
@[irreducible] def s : Shared := zzc.2.2.2.2.2.2.2.2.2.2.2.2.1
@[irreducible] def tk : Nat := zzc.2.2.2.2.2.2.2.2.2.2.2.2.2.1
@[irreducible] def m : Str → Option Value := zzc.2.2.2.2.2.2.2.2.2.2.2.2.2.2.1
@[irreducible] def ps : Array Value := zzc.2.2.2.2.2.2.2.2.2.2.2.2.2.2.2.1
@[irreducible] def so : Obj := zzc.2.2.2.2.2.2.2.2.2.2.2.2.2.2.2.2.1
@[irreducible] def lo : Obj := zzc.2.2.2.2.2.2.2.2.2.2.2.2.2.2.2.2.2.1
@[irreducible] def vs : List Value := zzc.2.2.2.2.2.2.2.2.2.2.2.2.2.2.2.2.2.2.1
@[irreducible] def us : List Value := zzc.2.2.2.2.2.2.2.2.2.2.2.2.2.2.2.2.2.2.2.1
@[irreducible] def ns : List Int := zzc.2.2.2.2.2.2.2.2.2.2.2.2.2.2.2.2.2.2.2.2
theorem zzcore : zzQ w name scope body L a a2 B h0 g h l s tk m ps so lo vs us ns := by
 k_with "e_q" =>
  intro hb S zC G F N hso hlo hps hlt zlg zlg2 zVg hI Bd
  have zOn : ZOn := .mk
  have hus4 : us.length ≤ 4 := by rw [ints_len hI]; exact Bd.1
  have hns10 : ns.length ≤ 10 := by have := Bd.1; lia
  refine hb.begin (P := fun name scope body => wpAny (model Challenge.rw_np0089_01.row.prog w) ((AtR 350 l).deeper (envOfC name scope L 752 (.ref 751))) (execs (body.drop 3) (envOfC name scope L 752 (.ref 751))) (fun fl s' => RetT B h0 749 (fun v _ => v = .bool true) s (flv fl) s') (fun _ _ => False) { s with heap := h, toks := tk }) (by k_is) fun hFn => ?_
  dsimp only [List.drop]
  have zX := Std.X S
  have zT := Std.top S
  have hb1 : BlkAt ⟨433, 12, 433, 46⟩ := .mk
  have hR1 : RowsP ⟨433, 12, 433, 46⟩ RBits := .mk
  have hb2 : BlkAt ⟨434, 11, 434, 64⟩ := .mk
  have hG2 : CompP ⟨434, 11, 434, 64⟩ (GSum ns) := .mk
  k_with "m_01" => first | exact map01 (fun b => by (try dsimp only); split <;> simp) | exact map01 (fun b => by (try dsimp only); rw [Int.fmod_eq_emod_of_nonneg _ (show (0 : Int) ≤ 2 by decide)]; lia)
  k_with "m_eq" => first | exact list3 (due_and Bd zlen9) (due_or Bd) (due_xor Bd) | rfl
  k_with "m_size" => first | exact Nat.le_of_ble_eq_true rfl | lia | (have zq := ints_len (by assumption : IntsAre _ (List.map _ (List.range 90))); simp at zq; lia)
  k_with "m_elt" => first
    | (obtain ⟨_, zPa⟩ := zP; (have zq9 := ints_at hI zPa; replace zq9 := epsX zq9; generalize zXc _ _ = zn9 at zq9; replace zq9 := epsX zq9; generalize zXc _ _ = zt9 at zq9; obtain ⟨zv9, zq9⟩ := zq9; have zn8 := zq9; clear zq9); subst zv9)
    | ((have zq9 := zP; obtain ⟨zi9, zq9⟩ := zq9; replace zq9 := epsX zq9; generalize zXc _ _ = zt9 at zq9; have zv9 := zq9; clear zq9); subst zv9; have zi8 : zi < 90 := zi9; have hSK : SumKeep := .mk; have hGr : CompP ⟨434, 16, 434, 42⟩ (GRow zys ns (0 + (zi : Int)).toNat) := .mk)
    | ((with_reducible show wpAny _ _ (eval (Expr.Subscript _ _ _) _) _ _ _); (have zq9 := row_bits zN' (by intro p hp; simp only [List.mem_cons, List.not_mem_nil, or_false] at hp; rcases hp with rfl | rfl | rfl | rfl <;> k_mem) hI zrw zP; replace zq9 := epsX zq9; generalize zXc _ _ = za9 at zq9; replace zq9 := epsX zq9; generalize zXc _ _ = zs9 at zq9; replace zq9 := epsX zq9; generalize zXc _ _ = zn9 at zq9; obtain ⟨zv9, zq9⟩ := zq9; obtain ⟨zl9, zq9⟩ := zq9; obtain ⟨zI9, zq9⟩ := zq9; have zh9 := zq9; clear zq9); subst zv9)
    | ((have zq9 := ints_at (by assumption : IntsAre _ (List.map _ (List.range 90))) zP; replace zq9 := epsX zq9; generalize zXc _ _ = zb9 at zq9; replace zq9 := epsX zq9; generalize zXc _ _ = zt9 at zq9; obtain ⟨zv9, zq9⟩ := zq9; have zn9 := zq9; clear zq9); subst zv9)
  k_with "m_eclose" => first | exact ⟨rfl, _, rfl⟩ | exact RBits.of (by assumption) | exact GRow.of (by assumption) | exact GSum.of | exact GMap.of
  k_with "m_made" => first
    | (have zlen9 : zys.length = ns.length := (zrw.1.trans (ints_len hI)); have zlen8 : zys.length ≤ 4 := (by have := Bd.1; lia); have hG3 : CompP ⟨435, 22, 435, 62⟩ (GMap fun b => if (b == (zys.length : Int)) = true then 1 else 0) := .mk; have hG4 : CompP ⟨435, 76, 435, 106⟩ (GMap fun b => if decide (0 < b) = true then 1 else 0) := .mk; have hG5 : CompP ⟨436, 26, 436, 51⟩ (GMap fun b => Int.fmod b 2) := .mk)
    | (have zIr := row_made zlen9 zpr)
    | (have zIm := map_made (by assumption : IntsAre _ (List.map _ (List.range 90))) zpr)
    | (have zIs := sum_made zmd)
  k_with "m_seg" => ((with_reducible show wpAny _ _ (execs (Stmt.Assign [Expr.Name _ ⟨439, 4, 439, 9⟩] _ _ :: _) _) _ _ _); k_extra "FN"; exact fold_tail hFn (by assumption) (by assumption) (by assumption) (Fr.names lF' (one_eq (by rfl))) (News.partF lN' (by lcg_sub)) (by assumption) (by first | with_reducible assumption | kn_triples) (by assumption) (by assumption) (by assumption) (by assumption) hI Bd)
  k_steps
  all_goals first | walk_at "m_tend" | ((try dsimp only); wrow_close) | skip
 k_extra "e_Q"
end fold_mid_e
theorem fold_mid {w : World} {name : Str} {scope : Scope} {body : List Stmt} {L a a2 : Addr} {B h0 g h : Heap} {l : List Env} {s : Shared} {tk : Nat} {m : Str → Option Value} {ps : Array Value} {so lo : Obj} {vs us : List Value} {ns : List Int} (hb : FnIs w 752 name scope body) (S : Std w g) (zC : CodeHd g 751 749) (G : Gr B h0 g l) (F : Fr g L h fun y => if y = Str.ofString "worths" then some (.ref a2) else m y)
    (N : News g L h [(L + 1, so), (L + 2, lo), (749, tabObj ps)]) (hso : so.data = .cell (some (.ref a))) (hlo : lo.data = .cell none) (hps : TriplesOk ps.toList) (hlt : @LT.lt Nat _ 749 L) (zlg : g.IsList a vs.toArray) (zlg2 : g.IsList a2 us.toArray) (zVg : NumsAt g vs ns) (hI : IntsAre us ns) (Bd : Sm ns) : wpAny (model Challenge.rw_np0089_01.row.prog w) ((AtR 350 l).deeper (envOfC name scope L 752 (.ref 751))) (execs (body.drop 3) (envOfC name scope L 752 (.ref 751))) (fun fl s' => RetT B h0 749 (fun v _ => v = .bool true) s (flv fl) s') (fun _ _ => False) { s with heap := h, toks := tk } := epsU (P := fold_mid_e.zzS) (by with_unfolding_all exact fold_mid_e.zzcore) (w, name, scope, body, L, a, a2, B, h0, g, h, l, s, tk, m, ps, so, lo, vs, us, ns) hb S zC G F N hso hlo hps hlt zlg zlg2 zVg hI Bd
end Mine.Internal
namespace Mine.Internal
namespace folded_cons_e
noncomputable def zzQ (w : World) (B : Heap) (l : Addr) (l2 : Addr) (vs : List Value) (us : List Value) (ns : List Int) : Prop := ∀ S : Std w B, ∀ C : CodeHd B 751 749, ∀ hBt : B.get? 749 = none, ∀ hl : B.IsList l vs.toArray, ∀ V : NumsAt B vs ns, ∀ hl2 : B.IsList l2 us.toArray, ∀ hI : IntsAre us ns, ∀ Bd : Sm ns, ∀ hne : ns ≠ [], CallsT w 350 (.ref 752) [.ref l, .ref l2] B 749 (fun v _ => v = .bool true)
noncomputable abbrev zzT : Type := World × Heap × Addr × Addr × (List Value) × (List Value) × (List Int)
noncomputable def zzS (z : zzT) : Prop := zzQ z.1 z.2.1 z.2.2.1 z.2.2.2.1 z.2.2.2.2.1 z.2.2.2.2.2.1 z.2.2.2.2.2.2
noncomputable def zzc : zzT := @Classical.epsilon zzT ⟨(zw, cN, cN, cN, cN, cN, cN)⟩ fun z => ¬ zzS z
@[irreducible] def w : World := zzc.1
@[irreducible] def B : Heap := zzc.2.1
@[irreducible] def l : Addr := zzc.2.2.1
@[irreducible] def l2 : Addr := zzc.2.2.2.1
@[irreducible] def vs : List Value := zzc.2.2.2.2.1
@[irreducible] def us : List Value := zzc.2.2.2.2.2.1
@[irreducible] def ns : List Int := zzc.2.2.2.2.2.2
theorem zzcore : zzQ w B l l2 vs us ns := by
 k_with "e_q" =>
  intro S C hBt hl V hl2 hI Bd hne
  have zOn : ZOn := .mk
  have hus4 : us.length ≤ 4 := by rw [ints_len hI]; exact Bd.1
  have hns10 : ns.length ≤ 10 := by have := Bd.1; omega
  have hns0 : 0 < ns.length := List.length_pos_iff.mpr hne
  k_with "m_told" => (k_extra "FN"; (have zG9 := (by assumption : Gr _ _ _ _)); first
    | ((first
      | ((refine told_okN (by assumption) (by exact lF') (by exact lN') (by k_mem) (by k_mem) (by assumption) (by assumption) (fun h' st S' ho hcd => lam_plus S' ho hcd (by exact st _ _ (News.get lN' (by k_mem))) (by assumption) (hl.at fun o e => st _ _ (lF'.keep _ _ (zG9.base _ _ e))) (NumsAt.keeps V fun b o e => st _ _ (lF'.keep _ _ (zG9.base _ _ e))) Bd) ?_; k_extra "e_41"))
      | ((refine told_okN (by assumption) (by exact lF') (by exact lN') (by k_mem) (by k_mem) (by assumption) (by assumption) (fun h' st S' ho hcd => lam_minus S' ho hcd (by exact st _ _ (News.get lN' (by k_mem))) (by assumption) (hl.at fun o e => st _ _ (lF'.keep _ _ (zG9.base _ _ e))) (NumsAt.keeps V fun b o e => st _ _ (lF'.keep _ _ (zG9.base _ _ e))) Bd) ?_; k_extra "e_41"))
      | ((refine told_okN (by assumption) (by exact lF') (by exact lN') (by k_mem) (by k_mem) (by assumption) (by assumption) (fun h' st S' ho hcd => lam_times S' ho hcd (by exact st _ _ (News.get lN' (by k_mem))) (by assumption) (hl.at fun o e => st _ _ (lF'.keep _ _ (zG9.base _ _ e))) (NumsAt.keeps V fun b o e => st _ _ (lF'.keep _ _ (zG9.base _ _ e))) Bd) ?_; k_extra "e_41"))); ((have zq9 := zp'; replace zq9 := epsX zq9; generalize zXc _ _ = zt9 at zq9; have zp' := zq9; clear zq9); subst zp'))
    | (((refine told_quot (ns := ns) S zG9 (by exact lF') (by exact lN') (by rfl) (by decide) (by k_mem) (by k_mem) (by assumption) (by assumption) (fun hz h' hN' S' hB ho hcd => lam_quot S' ho hcd (by exact hN' (_, _) (by k_mem)) (by assumption) (hl.at fun o e => hB _ _ e) (NumsAt.keeps V hB) Bd hne hz) (fun hz h' hN' S' hB ho hcd => lam_quot0 S' ho hcd (by exact hN' (_, _) (by k_mem)) (by assumption) (hl.at fun o e => hB _ _ e) (NumsAt.keeps V hB) Bd hz) ?_; (first | (k_extra "m_on"; refine epsT4 ?_; generalize pj1 _ = zg'; generalize pj2 _ = zv; generalize pj3 _ = zh'; generalize pl4 _ = ztk'; intro zq zG' zS' zF' zN') | intro zg' zv zh' ztk' zq zG' zS' zF' zN'))); (have zlg := hl.at fun o e => zG'.base _ o e); (have zlg2 := hl2.at fun o e => zG'.base _ o e); (have zVg := NumsAt.keeps V zG'.base); (have zC9 := CodeHd.keeps C zG'.base); (clear zX zT); (have zX := Std.X zS'); (have zT := Std.top zS')))
  k_with "m_eq" => rfl
  k_with "m_neq" => exact hne
  k_with "m_size" => first | exact Nat.le_of_ble_eq_true rfl | omega
  k_with "m_seg" => ((with_reducible show wpAny _ _ (execs (Stmt.Assign [Expr.Name _ ⟨433, 4, 433, 9⟩] _ _ :: _) _) _ _ _); k_extra "FN"; exact fold_mid hFn (by assumption) (by assumption) (by assumption) (Fr.names lF' (one_eq (by rfl))) (News.partF lN' (by lcg_sub)) (by assumption) (by assumption) (by first | with_reducible assumption | kn_triples) (by assumption) (by assumption) (by assumption) (by assumption) hI Bd)
  walk_at "m_tenter"
  replace zF' : Fr zg zL' zh' (fun y => if y = Str.ofString "worths" then some (.ref l2) else none) := by with_unfolding_all exact zF'
  replace zd1 : zo1.data = .cell none := by with_unfolding_all exact zd1
  replace zd2 : zo2.data = .cell (some (.ref l)) := by with_unfolding_all exact zd2
  have hFn := FnIs.mk' (w := w) (a := 752) (by k_is)
  have zlg := hl.at fun o e => zG.base _ o e
  have zlg2 := hl2.at fun o e => zG.base _ o e
  have zVg := NumsAt.keeps V zG.base
  k_steps
  all_goals first | walk_at "m_tend" | ((try dsimp only); wrow_close) | skip
 k_extra "e_Q"
end folded_cons_e
theorem folded_cons {w : World} {B : Heap} (S : Std w B) (C : CodeHd B 751 749) (hBt : B.get? 749 = none) {l l2 : Addr} {vs us : List Value} {ns : List Int} (hl : B.IsList l vs.toArray) (V : NumsAt B vs ns) (hl2 : B.IsList l2 us.toArray) (hI : IntsAre us ns) (Bd : Sm ns) (hne : ns ≠ []) : CallsT w 350 (.ref 752) [.ref l, .ref l2] B 749 (fun v _ => v = .bool true) := epsU (P := folded_cons_e.zzS) (by with_unfolding_all exact folded_cons_e.zzcore) (w, B, l, l2, vs, us, ns) S C hBt hl V hl2 hI Bd hne
namespace folded_nil_e
noncomputable def zzQ (w : World) (B : Heap) (l : Addr) (l2 : Addr) (vs : List Value) (us : List Value) : Prop := ∀ S : Std w B, ∀ C : CodeHd B 751 749, ∀ hBt : B.get? 749 = none, ∀ hl : B.IsList l vs.toArray, ∀ V : NumsAt B vs [], ∀ hl2 : B.IsList l2 us.toArray, ∀ hI : IntsAre us [], CallsT w 350 (.ref 752) [.ref l, .ref l2] B 749 (fun v _ => v = .bool true)
noncomputable abbrev zzT : Type := World × Heap × Addr × Addr × (List Value) × (List Value)
noncomputable def zzS (z : zzT) : Prop := zzQ z.1 z.2.1 z.2.2.1 z.2.2.2.1 z.2.2.2.2.1 z.2.2.2.2.2
noncomputable def zzc : zzT := @Classical.epsilon zzT ⟨(zw, cN, cN, cN, cN, cN)⟩ fun z => ¬ zzS z
@[irreducible] def w : World := zzc.1
@[irreducible] def B : Heap := zzc.2.1
@[irreducible] def l : Addr := zzc.2.2.1
@[irreducible] def l2 : Addr := zzc.2.2.2.1
@[irreducible] def vs : List Value := zzc.2.2.2.2.1
@[irreducible] def us : List Value := zzc.2.2.2.2.2
theorem zzcore : zzQ w B l l2 vs us := by
 k_with "e_q" =>
  intro S C hBt hl V hl2 hI
  have zOn : ZOn := .mk
  have Bd : Sm [] := ⟨by decide, fun _ h => nomatch h⟩
  have hus4 : us.length ≤ 4 := by rw [ints_len hI]; decide
  k_with "m_eq" => skip
  k_with "m_size" => skip
  k_with "m_told" => (k_extra "FN"; (have zG9 := (by assumption : Gr _ _ _ _)); first
    | ((first
      | ((refine told_okN (by assumption) (by exact lF') (by exact lN') (by k_mem) (by k_mem) (by assumption) (by assumption) (fun h' st S' ho hcd => lam_plus S' ho hcd (by exact st _ _ (News.get lN' (by k_mem))) (by assumption) (hl.at fun o e => st _ _ (lF'.keep _ _ (zG9.base _ _ e))) (NumsAt.keeps V fun b o e => st _ _ (lF'.keep _ _ (zG9.base _ _ e))) Bd) ?_; k_extra "e_41"))
      | ((refine told_okN (by assumption) (by exact lF') (by exact lN') (by k_mem) (by k_mem) (by assumption) (by assumption) (fun h' st S' ho hcd => lam_minus S' ho hcd (by exact st _ _ (News.get lN' (by k_mem))) (by assumption) (hl.at fun o e => st _ _ (lF'.keep _ _ (zG9.base _ _ e))) (NumsAt.keeps V fun b o e => st _ _ (lF'.keep _ _ (zG9.base _ _ e))) Bd) ?_; k_extra "e_41"))
      | ((refine told_okN (by assumption) (by exact lF') (by exact lN') (by k_mem) (by k_mem) (by assumption) (by assumption) (fun h' st S' ho hcd => lam_times S' ho hcd (by exact st _ _ (News.get lN' (by k_mem))) (by assumption) (hl.at fun o e => st _ _ (lF'.keep _ _ (zG9.base _ _ e))) (NumsAt.keeps V fun b o e => st _ _ (lF'.keep _ _ (zG9.base _ _ e))) Bd) ?_; k_extra "e_41"))); ((have zq9 := zp'; replace zq9 := epsX zq9; generalize zXc _ _ = zt9 at zq9; have zp' := zq9; clear zq9); subst zp')))
  k_with "m_eq" => rfl
  k_with "m_size" => first | exact Nat.le_of_ble_eq_true rfl | omega
  k_with "m_seg" => ((with_reducible show wpAny _ _ (execs (Stmt.Assign [Expr.Name _ ⟨433, 4, 433, 9⟩] _ _ :: _) _) _ _ _); k_extra "FN"; exact fold_mid hFn (by assumption) (by assumption) (by assumption) (Fr.names lF' (one_eq (by rfl))) (News.partF lN' (by lcg_sub)) (by assumption) (by assumption) (by first | with_reducible assumption | kn_triples) (by assumption) (by assumption) (by assumption) (by assumption) hI Bd)
  walk_at "m_tenter"
  replace zF' : Fr zg zL' zh' (fun y => if y = Str.ofString "worths" then some (.ref l2) else none) := by with_unfolding_all exact zF'
  replace zd1 : zo1.data = .cell none := by with_unfolding_all exact zd1
  replace zd2 : zo2.data = .cell (some (.ref l)) := by with_unfolding_all exact zd2
  have hFn := FnIs.mk' (w := w) (a := 752) (by k_is)
  have zlg := hl.at fun o e => zG.base _ o e
  have zlg2 := hl2.at fun o e => zG.base _ o e
  have zVg := NumsAt.keeps V zG.base
  k_steps
  all_goals first | walk_at "m_tend" | ((try dsimp only); wrow_close) | skip
 k_extra "e_Q"
end folded_nil_e
theorem folded_nil {w : World} {B : Heap} (S : Std w B) (C : CodeHd B 751 749) (hBt : B.get? 749 = none) {l l2 : Addr} {vs us : List Value} (hl : B.IsList l vs.toArray) (V : NumsAt B vs []) (hl2 : B.IsList l2 us.toArray) (hI : IntsAre us []) : CallsT w 350 (.ref 752) [.ref l, .ref l2] B 749 (fun v _ => v = .bool true) := epsU (P := folded_nil_e.zzS) (by with_unfolding_all exact folded_nil_e.zzcore) (w, B, l, l2, vs, us) S C hBt hl V hl2 hI
end Mine.Internal
namespace Mine.Internal
noncomputable def CallsM (w : World) (n : Nat) (f : Value) (args : List Value) (B : Heap) (d : Addr) (K : Obj → Prop) (P : Value → Heap → Prop) : Prop :=
  ∀ (A : Around) (s : Shared) (Q E : Value → Shared → Prop), A.handled = none → A.depth ≤ n → A.units ≤ 8 * n → B.StaysIn s.heap → (∃ o, s.heap.get? d = some o ∧ K o) →
    (∀ v h' tk', (∀ b o, b ≠ d → s.heap.get? b = some o → h'.get? b = some o) → (∃ o, h'.get? d = some o ∧ K o) → P v h' → Q v { s with heap := h', toks := tk' }) → wpAny (model Challenge.rw_np0089_01.row.prog w) A (call f args) Q E s
noncomputable def RetM (h : Heap) (d : Addr) (K : Obj → Prop) (P : Value → Heap → Prop) (s : Shared) (v : Value) (s' : Shared) : Prop :=
  ∃ h' tk', s' = { s with heap := h', toks := tk' } ∧ (∀ b o, b ≠ d → h.get? b = some o → h'.get? b = some o) ∧ (∃ o, h'.get? d = some o ∧ K o) ∧ P v h'
theorem RetM.intro {h h' : Heap} {d : Addr} {K : Obj → Prop} {P : Value → Heap → Prop} {s : Shared} {v : Value} {tk' : Nat} {L : Addr} {m : Str → Option Value} {news : List (Addr × Obj)} {o : Obj} (F : Fr (h.hide d) L h' m) (N : News (h.hide d) L h' news) (hm : (d, o) ∈ news) (hK : K o) (p : P v h') :
    RetM h d K P s v { s with heap := h', toks := tk' } :=
  ⟨h', tk', rfl, fun b o hb q => F.keep b o ((Heap.hide_ne h hb).trans q), ⟨o, (N _ hm).1, hK⟩, p⟩
theorem CallsM.fn {w : World} {n : Nat} {f : Addr} {args : List Value} {B : Heap} {d : Addr} {K : Obj → Prop} {P : Value → Heap → Prop}
    {name qual : Str} {params : Arguments} {body : List Stmt} {scope : Scope} {dV kV doc pm cdv ct oc : Value} {an od : Option Addr} {osl : Array (Option Value)} {binds : List (Str × Value)}
    (S : Std w B) (hBd : B.get? d = none) (ho : (Mine.hd.heap_39 w.params).lookup f = some ⟨oc, od, .func (fnOf name qual params body scope dV kV doc pm an cdv ct), osl⟩)
    (hcd : codeIn (Mine.hd.heap_39 w.params) cdv qual = true) (hroom : n < recursionLimit)
    (hbind : ∀ s, BindsTo s (fnOf name qual params body scope dV kV doc pm an cdv ct) ⟨args, []⟩ binds) (hloc : ∀ y ∈ binds, scope.names.lookup y.1 = some .local)
    (hb : ∀ (L' : Addr) (h h₁ : Heap) (s : Shared) (tk : Nat) (o : Obj), B.StaysIn (h.hide d) → Std w (h.hide d) → K o → Fr (h.hide d) L' h₁ (fun y => binds.reverse.lookup y) → News (h.hide d) L' h₁ [(d, o)] →
      wpAny (model Challenge.rw_np0089_01.row.prog w) ((At n).deeper (envOf qual scope L' f cdv)) (execs body (envOf qual scope L' f cdv))
        (fun fl s' => RetM h d K P s (flv fl) s') (fun _ _ => False) { s with heap := h₁, toks := tk })
    (hco : scope.isCoroutine = false) (hgen : scope.isGenerator = false) (hk : scope.kind = .function)
    (hcell : ∀ x ∈ scope.names, x.2 ≠ .cell) : CallsM w n (.ref f) args B d K P := by
  intro A s Q E hh hd hu hst ⟨o, hdo, hK⟩ k
  have hg : B.StaysIn (s.heap.hide d) := fun b o q => (Heap.hide_ne _ fun e => by rw [e, hBd] at q; cases q).trans (hst b o q)
  have Sg := S.keeps hg
  have Sh := S.keeps hst
  refine lift hh hd hu (wpAny_call ?_)
  obtain ⟨X, p, l, me, mg, mb, T⟩ := Sh
  refine codeAny_call_def (fd := fnOf name qual params body scope dV kV doc pm an cdv ct) (body := body) (binds := binds) hroom (X _ _ ho) rfl T.nolimit (codeRec_of X hcd) rfl (hbind s) hcell hloc (fun h₁ hns hk₁ => ?_) hco hgen hk
  have F' : Fr (s.heap.hide d) s.heap.objs.size h₁ _ := ⟨hns, fun b o q => hk₁ b o (Heap.of_hide q), Nat.le_of_eq (Heap.hide_size _ _)⟩
  refine wpAny_mono (hb s.heap.objs.size s.heap h₁ s _ o hg Sg hK F' (fun q hq => ?_)) (fun fl s' r => ?_) fun _ _ x => x.elim
  · rw [List.mem_singleton.mp hq]
    exact ⟨hk₁ _ _ hdo, Nat.ne_of_lt (Heap.lt_size hdo), Heap.hide_self _ _⟩
  · obtain ⟨h', tk', rfl, st, mt, p⟩ := r
    exact k _ _ _ st mt p
theorem CallsM.use {w : World} {n : Nat} {f : Value} {args : List Value} {B : Heap} {d : Addr} {K : Obj → Prop} {P : Value → Heap → Prop} {A : Around} {s : Shared} {Q E : Value → Shared → Prop} {g : Heap} {L : Addr} {m : Str → Option Value} {news : List (Addr × Obj)} {o : Obj} {up : Obj → List (Addr × Obj)}
    (C : CallsM w n f args B d K P) (hB : B.StaysIn g) (F : Fr g L s.heap m) (N : News g L s.heap news) (U : UpdF d o news up) (hK : K o)
    (k : ∀ v h' tk' o', K o' → P v h' → Fr g L h' m → News g L h' (up o') → (∀ b o, b ≠ d → s.heap.get? b = some o → h'.get? b = some o) → Q v { s with heap := h', toks := tk' })
    (hh : autoParam (A.handled = none) auR) (hd : autoParam (A.depth ≤ n) auL) (hu : autoParam (A.units ≤ 8 * n) auL) :
    wpAny (model Challenge.rw_np0089_01.row.prog w) A (call f args) Q E s := by
  obtain ⟨pre, post, e1, e2, e3, e4⟩ := U.split
  have hd : (d, o) ∈ news := by rw [e1]; simp
  have Nd := N _ hd
  refine C A s Q E hh ‹A.depth ≤ n› hu (fun b o q => F.keep b o (hB b o q)) ⟨o, Nd.1, hK⟩ fun v h' tk' st ⟨o', ho', hK'⟩ p => k v h' tk' o' hK' p ?_ ?_ st
  · exact ⟨F.ns.at' fun o e => st _ o (Ne.symm Nd.2.1) e, fun b o q => st b o (fun e => by rw [e, Nd.2.2] at q; cases q) (F.keep b o q), F.above⟩
  · intro q hq
    rw [e2] at hq
    rcases List.mem_append.mp hq with hq | hq
    · have z := N q (by rw [e1]; exact List.mem_append_left _ hq)
      exact ⟨st _ _ (e3 q hq) z.1, z.2⟩
    · rcases List.mem_cons.mp hq with rfl | hq
      · exact ⟨ho', Nd.2⟩
      · have z := N q (by rw [e1]; exact List.mem_append_right _ (List.mem_cons_of_mem _ hq))
        exact ⟨st _ _ (e4 q hq) z.1, z.2⟩
noncomputable def DeckO (o : Obj) : Prop := ∃ (vs : List Value) (ds : List Int) (c : Nat), o = listOf vs.toArray c ∧ IntsAre vs ds ∧ (∀ d ∈ ds, 0 ≤ d ∧ d < 10 ^ 30) ∧ vs.length ≤ 16
end Mine.Internal
namespace Mine.Internal
noncomputable def DeckStep (g : Heap) (L d : Addr) (m₀ : Str → Option Value) (vs : List Value) (s : Shared) (f : Flow) (s' : Shared) : Prop :=
  f = .next ∧ ∃ h' tk c, s' = { s with heap := h', toks := tk } ∧ Fr g L h' m₀ ∧ News g L h' [(d, listOf vs.toArray c)]
theorem DeckStep.intro {g h' : Heap} {L d : Addr} {m₀ : Str → Option Value} {vs : List Value} {s : Shared} {tk c : Nat} {news : List (Addr × Obj)} (F : Fr g L h' m₀) (N : News g L h' news) (hm : (d, listOf vs.toArray c) ∈ news) : DeckStep g L d m₀ vs s .next { s with heap := h', toks := tk } :=
  ⟨rfl, h', tk, c, rfl, F, fun p hp => by rw [List.mem_singleton.mp hp]; exact N _ hm⟩
inductive DeckLoop (d : Addr) : Prop
  | mk
section
variable {prog : Program} {w : World} {A : Around} {E : Value → Shared → Prop} {s : Shared} {env : Env} {g : Heap} {body : List Stmt} {Q : Flow → Shared → Prop} {test : Expr} {pos : Pos}
theorem while_deck {d : Addr} {o : Obj} {m₀ : Str → Option Value} (_ : DeckLoop d) (F : Fr g env.locals s.heap m₀) (N : News g env.locals s.heap [(d, o)]) (hK : DeckO o)
    (empty : ∀ c h tk, Fr g env.locals h m₀ → News g env.locals h [(d, listOf ([] : List Value).toArray c)] →
      wpAny (model prog w) A (isTrue test env (eval test env)) (fun bb s₂ => if bb = true then False else Q .next s₂) E { s with heap := h, toks := tk })
    (other : ∀ a t vs ds c h tk, a ≠ 0 → 0 ≤ a → a < 10 ^ 30 → IntsAre vs ds → (∀ d ∈ ds, 0 ≤ d ∧ d < 10 ^ 30) → vs.length ≤ 15 → Fr g env.locals h m₀ → News g env.locals h [(d, listOf (Value.int a t :: vs).toArray c)] →
      wpAny (model prog w) A (isTrue test env (eval test env)) (fun bb s₂ => if bb = true then False else Q .next s₂) E { s with heap := h, toks := tk })
    (nought : ∀ t vs ds c h tk, IntsAre vs ds → vs.length ≤ 15 → Fr g env.locals h m₀ → News g env.locals h [(d, listOf (Value.int 0 t :: vs).toArray c)] →
      wpAny (model prog w) A (isTrue test env (eval test env)) (fun bb s₂ => if bb = true then wpAny (model prog w) A (execs body env) (DeckStep g env.locals d m₀ vs s) E s₂ else False) E { s with heap := h, toks := tk })
    (hE : PassesOwn (model prog w) A env E) : wpAny (model prog w) A (exec (.While test body [] pos) env) Q E s := by
  obtain ⟨vs, ds, c, rfl, I, hb, hlen⟩ := hK
  refine While_inv (h₀ := g) (L := env.locals) (fun n m nw => m = m₀ ∧ ∃ vs ds c, nw = [(d, listOf vs.toArray c)] ∧ IntsAre vs ds ∧ (∀ d ∈ ds, 0 ≤ d ∧ d < 10 ^ 30) ∧ vs.length ≤ 16 ∧ n = vs.length) F N ⟨rfl, vs, ds, c, rfl, I, hb, hlen, rfl⟩ ?_ hE
  rintro n m₁ news₁ h₁ tk₁ F₁ N₁ ⟨rfl, vs, ds, c, rfl, I, hb, hlen, rfl⟩
  cases I with
  | nil =>
    refine wpAny_mono (empty c h₁ tk₁ F₁ N₁) (fun bb s₂ h₂ => ?_) fun _ _ e => e
    cases bb with
    | false => exact h₂
    | true => exact h₂.elim
  | cons a t I' =>
    rename_i vs' ds'
    have hb' : ∀ d ∈ ds', 0 ≤ d ∧ d < 10 ^ 30 := fun x hx => hb x (List.mem_cons_of_mem _ hx)
    have hl15 : vs'.length ≤ 15 := by simp only [List.length_cons] at hlen; lia
    by_cases h0 : a = 0
    · subst h0
      refine wpAny_mono (nought t vs' ds' c h₁ tk₁ I' hl15 F₁ N₁) (fun bb s₂ h₂ => ?_) fun _ _ e => e
      cases bb with
      | false => exact h₂.elim
      | true =>
        simp only [if_true] at h₂ ⊢
        refine wpAny_mono h₂ (fun f s₃ h₃ => ?_) fun _ _ e => e
        obtain ⟨rfl, h', tk, c', rfl, F', N'⟩ := h₃
        exact WhileStep.intro F' N' (by simp) ⟨rfl, vs', ds', c', rfl, I', hb', by lia, rfl⟩
    · have h1 := hb a (List.mem_cons_self ..)
      refine wpAny_mono (other a t vs' ds' c h₁ tk₁ h0 h1.1 h1.2 I' hb' hl15 F₁ N₁) (fun bb s₂ h₂ => ?_) fun _ _ e => e
      cases bb with
      | false => exact h₂
      | true => exact h₂.elim
end
section
variable {prog : Program} {w : World} {A : Around} {E : Value → Shared → Prop} {s : Shared} {g : Heap} {L D : Addr} {m : Str → Option Value} {news news' : List (Addr × Obj)}
theorem pop0_K {v : Value} {vs : List Value} {n : Nat} {u : Tok} {Q : Value → Shared → Prop} (F : Fr g L s.heap m) (N : News g L s.heap news) (U : Upd D (listOf (v :: vs).toArray n) (listOf vs.toArray (n + 1)) news news') (hz : vs.length ≤ 15)
    (h : ∀ h', Fr g L h' m → News g L h' news' → Q v { s with heap := h' }) : wpAny (model prog w) A (call (.builtin "list.pop") [.ref D, .int 0 u]) Q E s :=
  kl_popAt (k := 0) (p := []) (q := vs) (y := v) F N rfl (by simp [seqIndex?]) rfl U (by rw [PySem.sizeLine_eq]; simp; lia) h
end
theorem fdiv_in {a many X : Int} (h0 : 0 ≤ a) (h1 : a < X) (hm : 0 < many) : 0 ≤ a.fdiv many ∧ a.fdiv many < X := by
  rw [Int.fdiv_eq_ediv_of_nonneg _ (Int.le_of_lt hm)]
  have h2 := Int.ediv_nonneg h0 (Int.le_of_lt hm)
  have h3 := Int.ediv_le_self many h0
  lia
end Mine.Internal
namespace Mine.Internal
namespace draw_calls_e
noncomputable def zzQ (w : World) (B : Heap) (d : Addr) (many : Int) (t : Tok) : Prop := ∀ S : Std w B, ∀ hBd : B.get? d = none, ∀ h0 : 0 < many, ∀ hlog : many.natAbs.log2 < 9000, CallsM w 360 (.ref 709) [.ref d, .int many t] B d DeckO (fun v _ => ∃ r t, v = .int r t ∧ 0 ≤ r ∧ r < many)
noncomputable abbrev zzT : Type := World × Heap × Addr × Int × Tok
noncomputable def zzS (z : zzT) : Prop := zzQ z.1 z.2.1 z.2.2.1 z.2.2.2.1 z.2.2.2.2
noncomputable def zzc : zzT := @Classical.epsilon zzT ⟨(zw, cN, cN, cN, cN)⟩ fun z => ¬ zzS z
@[irreducible] def w : World := zzc.1
@[irreducible] def B : Heap := zzc.2.1
@[irreducible] def d : Addr := zzc.2.2.1
@[irreducible] def many : Int := zzc.2.2.2.1
@[irreducible] def t : Tok := zzc.2.2.2.2
theorem zzcore : zzQ w B d many t := by
 k_with "e_q" =>
  intro S hBd h0 hlog
  have zOn : ZOn := .mk
  have hD : DeckLoop d := .mk
  have hm0 : many ≠ 0 := by omega
  k_with "m_eq" => rfl
  k_with "m_neq" => (intro q; cases q)
  k_with "m_deck" => first | exact ⟨_, _, _, rfl, .nil, (fun _ h => nomatch h), Nat.zero_le _⟩ | exact ⟨Value.int _ _ :: zvs, _ :: zds, _, rfl, IntsAre.cons _ _ zI, List.forall_mem_cons.mpr ⟨fdiv_in za0 za1 h0, zb⟩, Nat.succ_le_succ zlen⟩
  k_with "m_close" => first | exact ⟨0, _, rfl, Int.le_refl 0, h0⟩ | exact ⟨_, _, rfl, Int.fmod_nonneg_of_pos _ h0, Int.fmod_lt_of_pos _ h0⟩
  walk_at "m_menter"
  k_steps
  all_goals first | ((try dsimp only); wrow_close) | skip
 k_extra "e_Q"
end draw_calls_e
theorem draw_calls {w : World} {B : Heap} {d : Addr} (S : Std w B) (hBd : B.get? d = none) {many : Int} {t : Tok} (h0 : 0 < many) (hlog : many.natAbs.log2 < 9000) : CallsM w 360 (.ref 709) [.ref d, .int many t] B d DeckO (fun v _ => ∃ r t, v = .int r t ∧ 0 ≤ r ∧ r < many) := epsU (P := draw_calls_e.zzS) (by with_unfolding_all exact draw_calls_e.zzcore) (w, B, d, many, t) S hBd h0 hlog
end Mine.Internal
namespace Mine.Internal
theorem funFrames_hides {h B : Heap} (as : List Addr) : ∀ {l : List Env}, (∀ a ∈ as, a ∉ frs l) → h.FunFrames B l → (hideAll h as).FunFrames B l
  | [], _, _ => trivial
  | env :: l, hn, ⟨hk, ⟨L, o, hf, hb, ho, hd⟩, hr⟩ =>
    ⟨hk, ⟨L, o, hf, hb, hideAll_get _ ho (fun hm => hn L hm (by unfold frs; rw [List.filterMap_cons, hf]; exact List.mem_cons_self ..)), hd⟩,
     funFrames_hides as (fun a ha hm => hn a ha (by unfold frs at hm ⊢; rw [List.filterMap_cons, hf]; exact List.mem_cons_of_mem _ hm)) hr⟩
noncomputable def adr (news : List (Addr × Obj)) : List Addr := news.map (·.1)
noncomputable def CallsG (w : World) (n : Nat) (f : Value) (args : List Value) (B : Heap) (news : List (Addr × Obj)) (Pre : Heap → Prop) (P : Value → List (Addr × Obj) → Prop) : Prop :=
  ∀ (A : Around) (s : Shared) (l : List Env) (Q E : Value → Shared → Prop), A.handled = none → A.depth ≤ n → A.units ≤ 8 * n → A.frames = some l → B.StaysIn s.heap → s.heap.FunFrames B l →
    (∀ p ∈ news, s.heap.get? p.1 = some p.2) → (∀ p ∈ news, p.1 ∉ frs l) → Pre (hideAll s.heap (adr news)) →
    (∀ v h' tk' news', P v news' → (hideAll s.heap (adr news)).StaysIn h' → (∀ p ∈ news', h'.get? p.1 = some p.2 ∧ (hideAll s.heap (adr news)).get? p.1 = none) → Q v { s with heap := h', toks := tk' }) → wpAny (model Challenge.rw_np0089_01.row.prog w) A (call f args) Q E s
noncomputable def RetG (g : Heap) (P : Value → List (Addr × Obj) → Prop) (s : Shared) (v : Value) (s' : Shared) : Prop :=
  ∃ h' tk' news', s' = { s with heap := h', toks := tk' } ∧ g.StaysIn h' ∧ (∀ p ∈ news', h'.get? p.1 = some p.2 ∧ g.get? p.1 = none) ∧ P v news'
theorem RetG.intro {g h' : Heap} {P : Value → List (Addr × Obj) → Prop} {s : Shared} {v : Value} {tk' : Nat} {L : Addr} {m : Str → Option Value} {all news' : List (Addr × Obj)} (F : Fr g L h' m) (N : News g L h' all) (sub : ∀ p ∈ news', p ∈ all) (p : P v news') : RetG g P s v { s with heap := h', toks := tk' } :=
  ⟨h', tk', news', rfl, F.keep, fun q hq => ⟨(N q (sub q hq)).1, (N q (sub q hq)).2.2⟩, p⟩
theorem CallsG.fn {w : World} {n : Nat} {f : Addr} {args : List Value} {B : Heap} {news : List (Addr × Obj)} {Pre : Heap → Prop} {P : Value → List (Addr × Obj) → Prop}
    {name qual : Str} {params : Arguments} {body : List Stmt} {scope : Scope} {dV kV doc pm cdv ct oc : Value} {an od : Option Addr} {osl : Array (Option Value)} {binds : List (Str × Value)}
    (S : Std w B) (hBn : ∀ p ∈ news, B.get? p.1 = none) (ho : (Mine.hd.heap_39 w.params).lookup f = some ⟨oc, od, .func (fnOf name qual params body scope dV kV doc pm an cdv ct), osl⟩)
    (hcd : codeIn (Mine.hd.heap_39 w.params) cdv qual = true) (hroom : n < recursionLimit)
    (hbind : ∀ s, BindsTo s (fnOf name qual params body scope dV kV doc pm an cdv ct) ⟨args, []⟩ binds) (hloc : ∀ y ∈ binds, scope.names.lookup y.1 = some .local)
    (hb : ∀ (L' : Addr) (g h₁ : Heap) (s : Shared) (tk : Nat) (l : List Env), Std w g → Below (AtR n l) B l g → Pre g → Fr g L' h₁ (fun y => binds.reverse.lookup y) → News g L' h₁ news →
      wpAny (model Challenge.rw_np0089_01.row.prog w) ((AtR n l).deeper (envOf qual scope L' f cdv)) (execs body (envOf qual scope L' f cdv))
        (fun fl s' => RetG g P s (flv fl) s') (fun _ _ => False) { s with heap := h₁, toks := tk })
    (hco : scope.isCoroutine = false) (hgen : scope.isGenerator = false) (hk : scope.kind = .function)
    (hcell : ∀ x ∈ scope.names, x.2 ≠ .cell) : CallsG w n (.ref f) args B news Pre P := by
  intro A s l Q E hh hd hu hfr hst hl hN hnf hpre k
  have hg : B.StaysIn (hideAll s.heap (adr news)) := fun b o q => hideAll_get _ (hst b o q) fun hm => by
    obtain ⟨p, hp, e⟩ := List.mem_map.mp hm
    have := hBn p hp
    rw [show p.1 = b from e, q] at this; cases this
  refine liftR hh hd hu hfr (enter (S.keeps hst) ho hcd hroom hbind hloc (fun L' h₁ tk F => ?_) hco hgen hk hcell)
  have F' : Fr (hideAll s.heap (adr news)) L' h₁ _ := ⟨F.ns, fun b o q => F.keep b o (of_hideAll _ q), by rw [hideAll_size]; exact F.above⟩
  refine wpAny_mono (hb L' _ h₁ s tk l (S.keeps hg) ⟨rfl, hg, funFrames_hides _ (fun a ha => ?_) hl⟩ hpre F' (fun p hp => ?_)) (fun fl s' r => ?_) fun _ _ x => x.elim
  · obtain ⟨p, hp, e⟩ := List.mem_map.mp ha
    exact e ▸ hnf p hp
  · exact ⟨F.keep _ _ (hN p hp), Nat.ne_of_lt (Nat.lt_of_lt_of_le (Heap.lt_size (hN p hp)) F.above), hideAll_none _ (List.mem_map_of_mem hp)⟩
  · obtain ⟨h', tk', news', rfl, st, e, p⟩ := r
    exact k _ _ _ _ p st e
section
variable {w : World} {B h g h' : Heap} {l : List Env} {name : Str} {scope : Scope} {L a : Addr} {cd : Value} {cl : List (Str × Addr)} {s : Shared} {m : Str → Option Value} {all : List (Addr × Obj)}
theorem Gr.afterT {tab : Addr} (G : Gr B h g l) (F : Fr g L s.heap m) (N : News g L s.heap all) (hmt : (tab, tabObj #[]) ∈ all) (k : ((hideAll s.heap (frs (envX name scope L a cd cl :: l))).hide tab).StaysIn h') (u : s.heap.UpToSlots h') :
    ∃ g', Gr B h g' l ∧ Fr g' L h' m ∧ (∀ p ∈ all, p.1 ≠ tab → h'.get? p.1 = some p.2) ∧ (∀ p ∈ all, g'.get? p.1 = none) := by
  have nL : ∀ b o, g.get? b = some o → b ≠ L := fun b o q e => absurd (Nat.lt_of_lt_of_le (Heap.lt_size (e ▸ q : g.get? L = some o)) F.above) (Nat.lt_irrefl _)
  have nT : ∀ b o, g.get? b = some o → b ≠ tab := fun b o q e => by rw [e, (N _ hmt).2.2] at q; cases q
  have kg : (hideAll g (frs l)).StaysIn h' := fun b o q => k b o ((Heap.hide_ne _ (nT _ _ (of_hideAll _ q))).trans (hideAll_get _ (F.keep _ _ (of_hideAll _ q)) fun hm => by
    rcases List.mem_cons.mp hm with hm | hm
    · exact nL _ _ (of_hideAll _ q) hm
    · have : (hideAll g (frs l)).get? b = none := hideAll_none _ hm
      rw [this] at q; cases q))
  obtain ⟨g', x1, x2, x3, x4, x5⟩ := reground (frs l) kg fun b o q hb => u b o (F.keep _ _ q) fun vs e => by
    obtain ⟨o', e1, e2⟩ := gr_not G.frames b hb
    rw [q] at e1; cases e1; exact e2 vs e
  refine ⟨g', ⟨fun b o q => x3 b o (hideAll_get _ (G.base _ _ q) fun hm => by rw [(G.frames.mem hm).1] at q; cases q), G.up.trans fun b o q _ => x4 b o q, G.frames.of_keeps fun b o q _ => let ⟨_, e⟩ := x4 b o q; ⟨_, e, rfl⟩⟩,
    ⟨u.ns F.ns, x2, x1 ▸ F.above⟩, fun p hp hne => k _ _ ((Heap.hide_ne _ hne).trans (hideAll_get _ (N p hp).1 fun hm => ?_)), fun p hp => x5 _ (N p hp).2.2⟩
  rcases List.mem_cons.mp hm with hm | hm
  · exact (N p hp).2.1 hm
  · obtain ⟨o', e1, _⟩ := gr_not G.frames _ hm
    rw [(N p hp).2.2] at e1; cases e1
theorem CallsT.use {n : Nat} {f : Value} {args : List Value} {P : Value → Heap → Prop} {A : Around} {Q E : Value → Shared → Prop} {tab : Addr} {up : Obj → List (Addr × Obj)} (G : Gr B h g l) (F : Fr g L s.heap m) (N : News g L s.heap all) (U : UpdF tab (tabObj #[]) all up) (hfr : A.frames = some (envX name scope L a cd cl :: l)) (hk : scope.kind ≠ .module)
    (C : ∀ D : Heap, B.StaysIn D → D.get? tab = none → (∀ p ∈ all, p.1 ≠ tab → D.get? p.1 = some p.2) → CallsT w n f args D tab P)
    (k : ∀ g' v h' tk' ps, P v h' → Gr B h g' l → Fr g' L h' m → News g' L h' (up (tabObj ps)) → Q v { s with heap := h', toks := tk' })
    (hh : autoParam (A.handled = none) auR) (hd : autoParam (A.depth ≤ n) auL) (hu : autoParam (A.units ≤ 8 * n) auL) :
    wpAny (model Challenge.rw_np0089_01.row.prog w) A (call f args) Q E s := by
  obtain ⟨pre, post, e1, e2, e3, e4⟩ := U.split
  have hmt : (tab, tabObj #[]) ∈ all := by rw [e1]; simp
  have hH := Gr.now (name := name) (a := a) (cd := cd) (cl := cl) G F hk
  refine C ((hideAll s.heap (frs (envX name scope L a cd cl :: l))).hide tab) (fun b o q => (Heap.hide_ne _ fun e => ?_).trans (Gr.hidden G F b o q)) (Heap.hide_self _ _) (fun p hp hne => (Heap.hide_ne _ hne).trans (hideAll_get _ (N p hp).1 fun hm => ?_)) A s _ Q E hh hd hu hfr
    (fun b o q => of_hideAll _ (Heap.of_hide q)) (funFrames_base (fun b o q => Heap.of_hide q) hH) (N _ hmt).1 fun v h' tk' k1 k2 ⟨ps, t1, _⟩ p => ?_
  · have := (N _ hmt).2.2
    have q' := G.base _ _ q
    rw [show b = tab from e, this] at q'; cases q'
  · rcases List.mem_cons.mp hm with hm | hm
    · exact (N p hp).2.1 hm
    · obtain ⟨o', e1, _⟩ := gr_not G.frames _ hm
      rw [(N p hp).2.2] at e1; cases e1
  · obtain ⟨g', a1, a2, a3, a4⟩ := Gr.afterT G F N hmt k1 k2
    refine k g' v h' tk' ps p a1 a2 fun q hq => ?_
    rw [e2] at hq
    rcases List.mem_append.mp hq with hq | hq
    · have hq' : q ∈ all := by rw [e1]; exact List.mem_append_left _ hq
      exact ⟨a3 q hq' (e3 q hq), (N q hq').2.1, a4 q hq'⟩
    · rcases List.mem_cons.mp hq with rfl | hq
      · exact ⟨t1, (N _ hmt).2.1, (a4 (tab, tabObj #[]) hmt : _)⟩
      · have hq' : q ∈ all := by rw [e1]; exact List.mem_append_right _ (List.mem_cons_of_mem _ hq)
        exact ⟨a3 q hq' (e4 q hq), (N q hq').2.1, a4 q hq'⟩
end
end Mine.Internal
namespace Mine.Internal
section
variable {prog : Program} {w : World} {A : Around} {E : Value → Shared → Prop} {s : Shared} {env : Env}
theorem assign_Tuple_list {elts : List Expr} {x1} {pos : Pos} {t : Addr} {items : Array Value} {Q : Unit → Shared → Prop} (hh : A.handled = none) (hl : s.heap.IsList t items)
    (hn : (assignEach elts env).length = items.size) (hstar : (assignEach elts env).findIdx? (·.1) = none)
    (h : ∀ h', Heap.ExtBut s.heap.objs.size s.heap h' → wpAny (model prog w) A (assignInOrder ((assignEach elts env).map (·.2)) items.toList) Q E { s with heap := h' }) :
    wpAny (model prog w) A (assign (.Tuple elts x1 pos) env (.ref t)) Q E s := by
  rw [assign_Tuple]
  refine wpAny_bind (wpAny_standAt ?_)
  unfold unpack
  rw [hn, hstar]
  exact wpAny_bind (wpAny_holding (kun_itemsOf hh hl h))
end
noncomputable abbrev Two := Addr × Value × Value
noncomputable def itemsOf (vw : List Two) : List Value := vw.map fun p => .ref p.1
noncomputable def partsOf (sel : Bool) (vw : List Two) : List Value := vw.map fun p => if sel = true then p.2.2 else p.2.1
inductive UnpP (pos : Pos) (vw : List Two) (sel : Bool) : Prop
  | mk
section
variable {prog : Program} {w : World} {A : Around} {E : Value → Shared → Prop} {s : Shared} {env : Env} {h₀ : Heap} {L : Addr} {m : Str → Option Value} {news : List (Addr × Obj)}
end
namespace comp_unp_e
noncomputable def zzQ (prog : Program) (w : World) (A : Around) (E : Value → Shared → Prop) (s : Shared) (env : Env) (h₀ : Heap) (L : Addr) (m : Str → Option Value) (news : List (Addr × Obj)) (iter : Expr) (x : Str) (x₂ : Str) (px : Pos) (px₂ : Pos) (tp : Pos) (pe : Pos) (tkk : Nat) (scope : Scope) (cl : List (Str × Addr)) (pos : Pos) (l : Addr) (vw : List Two) (sel : Bool) (Q : Value → Shared → Prop) : Prop := ∀ elt : Expr, ∀ x_1 : UnpP pos vw sel, ∀ hh : A.handled = none, ∀ hl : s.heap.IsList l (itemsOf vw).toArray, ∀ hlen : vw.length ≤ 1000, ∀ F : Fr h₀ L s.heap m, ∀ N : News h₀ L s.heap news, ∀ hcell : ∀ y ∈ scope.names, y.2 ≠ .cell, ∀ hkind : scope.kind = .function, ∀ hx : scope.names.lookup x = some .local, ∀ hx₂ : scope.names.lookup x₂ = some .local, ∀ hxx : x ≠ x₂, ∀ hit : ∀ p ∈ vw, s.heap.IsList p.1 #[p.2.1, p.2.2], ∀ helt : elt = .Name (if sel = true then x₂ else x) pe, ∀ hb : ((if sel = true then x₂ else x) == ("__debug__" : Str)) = false, ∀ k : ∀ D h' tk cap, Fr h₀ L h' m → News h₀ L h' ((D, listOf (partsOf sel vw).toArray cap) :: news) → (∀ p ∈ news, @Ne Nat p.1 D) → Q (.ref D) { s with heap := h', toks := tk }, wpAny (model prog w) A (pyIter (.ref l)) (fun it s₂ => Blk prog w A env (.Tuple [.Name x px, .Name x₂ px₂] tkk tp) elt iter [] scope cl pos E none Q it s₂) E s
noncomputable abbrev zzT : Type := Program × World × Around × (Value → Shared → Prop) × Shared × Env × Heap × Addr × (Str → Option Value) × (List (Addr × Obj)) × Expr × Str × Str × Pos × Pos × Pos × Pos × Nat × Scope × (List (Str × Addr)) × Pos × Addr × (List Two) × Bool × (Value → Shared → Prop)
noncomputable def zzS (z : zzT) : Prop := zzQ z.1 z.2.1 z.2.2.1 z.2.2.2.1 z.2.2.2.2.1 z.2.2.2.2.2.1 z.2.2.2.2.2.2.1 z.2.2.2.2.2.2.2.1 z.2.2.2.2.2.2.2.2.1 z.2.2.2.2.2.2.2.2.2.1 z.2.2.2.2.2.2.2.2.2.2.1 z.2.2.2.2.2.2.2.2.2.2.2.1 z.2.2.2.2.2.2.2.2.2.2.2.2.1 z.2.2.2.2.2.2.2.2.2.2.2.2.2.1 z.2.2.2.2.2.2.2.2.2.2.2.2.2.2.1 z.2.2.2.2.2.2.2.2.2.2.2.2.2.2.2.1 z.2.2.2.2.2.2.2.2.2.2.2.2.2.2.2.2.1 z.2.2.2.2.2.2.2.2.2.2.2.2.2.2.2.2.2.1 z.2.2.2.2.2.2.2.2.2.2.2.2.2.2.2.2.2.2.1 z.2.2.2.2.2.2.2.2.2.2.2.2.2.2.2.2.2.2.2.1 z.2.2.2.2.2.2.2.2.2.2.2.2.2.2.2.2.2.2.2.2.1 z.2.2.2.2.2.2.2.2.2.2.2.2.2.2.2.2.2.2.2.2.2.1 z.2.2.2.2.2.2.2.2.2.2.2.2.2.2.2.2.2.2.2.2.2.2.1 z.2.2.2.2.2.2.2.2.2.2.2.2.2.2.2.2.2.2.2.2.2.2.2.1 z.2.2.2.2.2.2.2.2.2.2.2.2.2.2.2.2.2.2.2.2.2.2.2.2
noncomputable def zzc : zzT := @Classical.epsilon zzT ⟨(cN, zw, zA, cN, zs, cN, cN, cN, cN, cN, cN, cN, cN, cN, cN, cN, cN, cN, cN, cN, cN, cN, cN, cN, cN)⟩ fun z => ¬ zzS z
theorem zzcore : zzS zzc := by
  show zzQ _ _ _ _ _ _ _ _ _ _ _ _ _ _ _ _ _ _ _ _ _ _ _ _ _
  generalize zzc.1 = prog; generalize zzc.2.1 = w; generalize zzc.2.2.1 = A; generalize zzc.2.2.2.1 = E; generalize zzc.2.2.2.2.1 = s; generalize zzc.2.2.2.2.2.1 = env; generalize zzc.2.2.2.2.2.2.1 = h₀; generalize zzc.2.2.2.2.2.2.2.1 = L; generalize zzc.2.2.2.2.2.2.2.2.1 = m; generalize zzc.2.2.2.2.2.2.2.2.2.1 = news; generalize zzc.2.2.2.2.2.2.2.2.2.2.1 = iter; generalize zzc.2.2.2.2.2.2.2.2.2.2.2.1 = x; generalize zzc.2.2.2.2.2.2.2.2.2.2.2.2.1 = x₂; generalize zzc.2.2.2.2.2.2.2.2.2.2.2.2.2.1 = px; generalize zzc.2.2.2.2.2.2.2.2.2.2.2.2.2.2.1 = px₂; generalize zzc.2.2.2.2.2.2.2.2.2.2.2.2.2.2.2.1 = tp; generalize zzc.2.2.2.2.2.2.2.2.2.2.2.2.2.2.2.2.1 = pe; generalize zzc.2.2.2.2.2.2.2.2.2.2.2.2.2.2.2.2.2.1 = tkk; generalize zzc.2.2.2.2.2.2.2.2.2.2.2.2.2.2.2.2.2.2.1 = scope; generalize zzc.2.2.2.2.2.2.2.2.2.2.2.2.2.2.2.2.2.2.2.1 = cl; generalize zzc.2.2.2.2.2.2.2.2.2.2.2.2.2.2.2.2.2.2.2.2.1 = pos; generalize zzc.2.2.2.2.2.2.2.2.2.2.2.2.2.2.2.2.2.2.2.2.2.1 = l; generalize zzc.2.2.2.2.2.2.2.2.2.2.2.2.2.2.2.2.2.2.2.2.2.2.1 = vw; generalize zzc.2.2.2.2.2.2.2.2.2.2.2.2.2.2.2.2.2.2.2.2.2.2.2.1 = sel; generalize zzc.2.2.2.2.2.2.2.2.2.2.2.2.2.2.2.2.2.2.2.2.2.2.2.2 = Q
  intro elt _ hh hl hlen F N hcell hkind hx hx₂ hxx hit helt hb k
  subst helt
  obtain ⟨ol, hol, _⟩ := id hl
  refine wpAny_pyIter_list hl ?_
  generalize hI2 : s.heap.push { cls := .type "list_iterator", data := .fields #[.ref l, .int 0 0] } = h₂
  have hs : ∀ b o, s.heap.get? b = some o → h₂.get? b = some o := fun b o e => by rw [← hI2]; exact Heap.get?_push_of_some _ e
  have hsz₂ : @Eq Nat h₂.objs.size (s.heap.objs.size + 1) := by rw [← hI2, Heap.size_push]
  have W := walks_list (prog := prog) (w := w) (s := s) hh hl
  generalize hI' : s.heap.objs.size = I at W hsz₂
  have hI : s.heap.get? I = none := Heap.get?_none_of_le (by rw [hI']; exact Nat.le_refl _)
  have hst : h₂.IsListIter I l 0 ∧ h₂.IsList l (itemsOf vw).toArray := ⟨⟨_, by rw [← hI2, ← hI']; exact Heap.get?_push_size _ rfl, rfl, rfl⟩, hl.at fun o e => hs _ o e⟩
  have hlI : @LT.lt Nat _ l I := by rw [← hI']; exact Heap.lt_size hol
  refine wpAny_newObj_type (wpAny_newFunctionEnv hcell (by intro y hy; simp at hy) (fun h₁ hns₁ hsb₁ => ?_) hkind)
  dsimp only at hns₁ hsb₁ ⊢
  generalize hH2 : h₂.push { cls := .type "list", dict := none, data := .seq ([] : List Value).toArray } = H2 at hns₁ hsb₁ ⊢
  have hC : @Eq Nat H2.objs.size (h₂.objs.size + 1) := by rw [← hH2, Heap.size_push]
  have hDC : h₂.objs.size ≠ H2.objs.size := Nat.ne_of_lt (by lia)
  have below : ∀ b, @LT.lt Nat _ b h₂.objs.size → b ≠ H2.objs.size ∧ b ≠ h₂.objs.size := fun b hb => ⟨Nat.ne_of_lt (by lia), Nat.ne_of_lt hb⟩
  have old : ∀ b o, h₂.get? b = some o → h₁.get? b = some o := fun b o e => hsb₁.extBut b o (below b (Heap.lt_size e)).1 (Heap.get?_push_of_some _ (hH2 ▸ Heap.get?_push_of_some _ e))
  have hacc : h₁.PlainList h₂.objs.size #[] := ⟨_, hsb₁.extBut _ _ hDC (Heap.get?_push_of_some _ (hH2 ▸ Heap.get?_push_size _ rfl))⟩
  have hIlt : @LT.lt Nat _ I h₂.objs.size := by lia
  have hfp : ∀ b ∈ [I, l], @LT.lt Nat _ b h₂.objs.size := fun b hb => by
    rcases List.mem_cons.mp hb with rfl | hb
    · exact hIlt
    · rw [List.mem_singleton.mp hb]; lia
  have old2 : ∀ b o, s.heap.get? b = some o → b ≠ I ∧ b ≠ H2.objs.size ∧ b ≠ h₂.objs.size := fun b o e =>
    ⟨fun q => (by rw [q, hI] at e; cases e), below b (Heap.lt_size (hs b o e))⟩
  have hLlt : @LT.lt Nat _ L s.heap.objs.size := F.ns.lt
  have hilen : (itemsOf vw).length = vw.length := List.length_map _
  have loop : ∀ s₃ : Shared, (∃ tk, s₃ = { s with heap := h₁, toks := tk }) →
      codeAny (model prog w) A (.compLoop (.ListComp (.Name (if sel = true then x₂ else x) pe) [⟨.Tuple [.Name x px, .Name x₂ px₂] tkk tp, iter, [], 0⟩] scope pos) 0 (.ref I) (.ref h₂.objs.size) (compEnvC scope cl H2.objs.size env))
        (compPost (model prog w) A E none Q (.ref h₂.objs.size) H2.objs.size) s₃ := by
    rintro s₃ ⟨tk₀, rfl⟩
    refine LCp.codeAny_compLoop_pair
      (fun n' s' => ∃ h' tk i ys m', s' = { s with heap := h', toks := tk } ∧ i ≤ (itemsOf vw).length ∧ n' = (itemsOf vw).length + 1 - i ∧ (h'.IsListIter I l i ∧ h'.IsList l (itemsOf vw).toArray) ∧ h'.Ns H2.objs.size m' ∧ h'.PlainList h₂.objs.size ys ∧ (∀ b o, s.heap.get? b = some o → h'.get? b = some o) ∧
        ys = ((partsOf sel vw).take i).toArray) ?_ ((itemsOf vw).length + 1)
      ⟨h₁, _, 0, #[], _, rfl, Nat.zero_le _, rfl, W.frame 0 _ _ hst fun b _ o e => old b o e, hns₁, hacc, fun b o e => old b o (hs b o e), by simp⟩
    rintro n' s' ⟨h', tk, i, ys, m', rfl, hi, rfl, hst', hn', hpl, hkp, hG⟩
    by_cases hlt : i < (itemsOf vw).length
    · refine W.item i _ _ _ hlt hst' fun v h₃ tk₃ hPv hst₃ hk₃ => ?_
      have hiv : i < vw.length := by lia
      obtain ⟨⟨t, v₁, v₂⟩, hvw⟩ : ∃ x, vw[i]'hiv = x := ⟨_, rfl⟩
      have hPv' : v = .ref t := by
        have e : (itemsOf vw)[i]? = some v := by simpa using hPv
        unfold itemsOf at e
        rw [List.getElem?_map, List.getElem?_eq_getElem hiv, hvw] at e
        exact (Option.some.inj e).symm
      subst hPv'
      have ht : s.heap.IsList t #[v₁, v₂] := by
        have := hit _ (List.getElem_mem hiv)
        rw [hvw] at this; exact this
      have k3 : ∀ b o, b ≠ I → h'.get? b = some o → h₃.get? b = some o := fun b o hb e => hk₃ b o (by simpa using hb) e
      refine wpAny_letOwnedTupleGo_listiter hst₃.1 ?_
      have ht3 : h₃.IsList t #[v₁, v₂] := ht.at fun o e => k3 _ _ (old2 _ _ e).1 (hkp _ _ e)
      refine assign_Tuple_list hh ht3 rfl rfl fun h₅ he => ?_
      have he' : ∀ b o, h₃.get? b = some o → h₅.get? b = some o := fun b o e => he b o (Nat.ne_of_lt (Heap.lt_size e)) e
      have k45 : ∀ b o, b ≠ I → h'.get? b = some o → h₅.get? b = some o := fun b o hb e => he' b o (k3 b o hb e)
      refine assignInOrder_cons (wpAny_assign_Name (wpAny_storeName_local (lookup_relabel_local hx) (hn'.at' fun o e => k45 _ o (fun q => absurd (q ▸ hIlt) (by lia)) e) (fun h₆ hn₆ hs₆ => ?_) (by simp [compEnvC, relabel, hkind])))
      refine assignInOrder_cons (wpAny_assign_Name (wpAny_storeName_local (lookup_relabel_local hx₂) hn₆ (fun h₇ hn₇ hs₇ => ?_) (by simp [compEnvC, relabel, hkind])))
      refine assignInOrder_nil ?_
      have k7 : ∀ b o, b ≠ H2.objs.size → h₅.get? b = some o → h₇.get? b = some o := fun b o hb e => hs₇.extBut b o hb (hs₆.extBut b o hb e)
      have ks : ∀ b o, s.heap.get? b = some o → h₇.get? b = some o := fun b o e => k7 b o (old2 b o e).2.1 (k45 b o (old2 b o e).1 (hkp b o e))
      have hst₇ : h₇.IsListIter I l (i + 1) ∧ h₇.IsList l (itemsOf vw).toArray := W.frame (i + 1) _ _ hst₃ fun b hb o e => k7 b o (below b (hfp b hb)).1 (he' b o e)
      obtain ⟨cap, hpl⟩ := hpl
      have hD₇ : h₇.get? h₂.objs.size = some (listOf ys cap) := k7 _ _ hDC (k45 _ _ (fun q => absurd (q ▸ hIlt) (Nat.lt_irrefl _)) hpl)
      have hrow : (partsOf sel vw)[i]? = some (if sel = true then v₂ else v₁) := by
        unfold partsOf
        rw [List.getElem?_map, List.getElem?_eq_getElem hiv, hvw]; rfl
      have hys : ys.size = i := by rw [hG]; simp [partsOf]; lia
      refine wpAny_Name (wpAny_loadName_local (v := if sel = true then v₂ else v₁) (by simp [compEnvC, relabel, hkind]) ?_ hn₇ ?_ ?_) hb
      · cases sel
        · exact lookup_relabel_local hx
        · exact lookup_relabel_local hx₂
      · cases sel <;> simp [hxx]
      refine append_at (hsz := by rw [PySem.sizeLine_eq]; lia) hD₇ fun h₉ hs₉ hD₉ => ?_
      have k9 : ∀ b o, b ≠ h₂.objs.size → h₇.get? b = some o → h₉.get? b = some o := fun b o hb e => hs₉.extBut b o hb e
      refine ⟨(itemsOf vw).length + 1 - (i + 1), by lia, h₉, _, i + 1, _, _, rfl, hlt, rfl, W.frame (i + 1) _ _ hst₇ fun b hb o e => k9 b o (below b (hfp b hb)).2 e, hn₇.at' fun o e => k9 _ o (Ne.symm hDC) e, ⟨_, hD₉⟩, fun b o e => k9 b o (old2 b o e).2.2 (ks b o e), ?_⟩
      rw [hG, List.push_toArray, List.take_add_one, hrow]; rfl
    · have hin : i = (itemsOf vw).length := by lia
      refine W.done _ _ _ (hin ▸ hst') fun h₃ tk₃ hk₃ => ?_
      obtain ⟨cap, hpl⟩ := hpl
      have k3 : ∀ b o, b ≠ I → h'.get? b = some o → h₃.get? b = some o := fun b o hb e => hk₃ b o (by simpa using hb) e
      have ks : ∀ b o, s.heap.get? b = some o → h₃.get? b = some o := fun b o e => k3 b o (old2 b o e).1 (hkp b o e)
      have hDn : s.heap.get? h₂.objs.size = none := Heap.get?_none_of_le (by lia)
      have hCn : s.heap.get? H2.objs.size = none := Heap.get?_none_of_le (by show @LE.le Nat _ s.heap.objs.size H2.objs.size; lia)
      have hall : ys = (partsOf sel vw).toArray := by rw [hG, List.take_of_length_le (by simp [partsOf]; lia)]
      subst hall
      have N₃ : News h₀ L h₃ ((h₂.objs.size, listOf (partsOf sel vw).toArray cap) :: news) := fun p hp => by
        rcases List.mem_cons.mp hp with rfl | hp
        · exact ⟨k3 _ _ (fun q => absurd (q ▸ hIlt) (Nat.lt_irrefl _)) hpl, (fresh_in F hDn).1, (fresh_in F hDn).2⟩
        · exact ⟨ks _ _ (N p hp).1, (N p hp).2⟩
      refine post_eval (F.keeps ks) N₃ (hn'.at' fun o e => k3 _ o (fun q => absurd (q ▸ hIlt) (by lia)) e) (fresh_in F hCn).2 (fresh_in F hCn).1 (fun p hp q => ?_) fun h₄ F₄ N₄ _ => k _ h₄ _ cap F₄ N₄ (fun p hp q => ?_)
      · rcases List.mem_cons.mp hp with rfl | hp
        · exact hDC q
        · rw [← q, (N p hp).1] at hCn; cases hCn
      · rw [show h₂.objs.size = p.1 from q.symm, (N p hp).1] at hDn; cases hDn
  exact codeAny_compStart_list (loop _ ⟨_, rfl⟩) (W.self 0 _ _ _ (W.frame 0 _ _ hst fun b _ o e => old b o e) (loop _ ⟨_, rfl⟩))
end comp_unp_e
theorem comp_unp {prog : Program} {w : World} {A : Around} {E : Value → Shared → Prop} {s : Shared} {env : Env} {h₀ : Heap} {L : Addr} {m : Str → Option Value} {news : List (Addr × Obj)} {elt iter : Expr} {x x₂ : Str} {px px₂ tp pe : Pos} {tkk : Nat} {scope : Scope} {cl : List (Str × Addr)} {pos : Pos} {l : Addr} {vw : List Two} {sel : Bool} {Q : Value → Shared → Prop} (_ : UnpP pos vw sel)
    (hh : A.handled = none) (hl : s.heap.IsList l (itemsOf vw).toArray) (hlen : vw.length ≤ 1000) (F : Fr h₀ L s.heap m) (N : News h₀ L s.heap news)
    (hcell : ∀ y ∈ scope.names, y.2 ≠ .cell) (hkind : scope.kind = .function) (hx : scope.names.lookup x = some .local) (hx₂ : scope.names.lookup x₂ = some .local) (hxx : x ≠ x₂)
    (hit : ∀ p ∈ vw, s.heap.IsList p.1 #[p.2.1, p.2.2])
    (helt : elt = .Name (if sel = true then x₂ else x) pe) (hb : ((if sel = true then x₂ else x) == ("__debug__" : Str)) = false)
    (k : ∀ D h' tk cap, Fr h₀ L h' m → News h₀ L h' ((D, listOf (partsOf sel vw).toArray cap) :: news) → (∀ p ∈ news, @Ne Nat p.1 D) → Q (.ref D) { s with heap := h', toks := tk }) : wpAny (model prog w) A (pyIter (.ref l)) (fun it s₂ => Blk prog w A env (.Tuple [.Name x px, .Name x₂ px₂] tkk tp) elt iter [] scope cl pos E none Q it s₂) E s := epsU (P := comp_unp_e.zzS) (by with_unfolding_all exact comp_unp_e.zzcore) (prog, w, A, E, s, env, h₀, L, m, news, iter, x, x₂, px, px₂, tp, pe, tkk, scope, cl, pos, l, vw, sel, Q) elt ‹_› hh hl hlen F N hcell hkind hx hx₂ hxx hit helt hb k
section
variable {prog : Program} {w : World} {A : Around} {E : Value → Shared → Prop} {s : Shared} {env : Env} {h₀ : Heap} {L : Addr} {m : Str → Option Value} {news : List (Addr × Obj)}
end
end Mine.Internal
namespace Mine.Internal
noncomputable def lawFn (w : World) : FuncData := match (Mine.hd.heap_39 w.params).lookup 769 with | some ⟨_, _, .func fd, _⟩ => fd | _ => default
noncomputable def lawBody (w : World) : List Stmt := match (lawFn w).body with | .stmts b => b | _ => []
noncomputable abbrev LawEnv (name : Str) (scope : Scope) (L fa : Addr) : Env := envOfC name scope L fa (.ref 768)
structure LawIs (w : World) (name : Str) (scope : Scope) (body : List Stmt) : Prop where
  name : (lawFn w).name = name
  scope : (lawFn w).scope = scope
  body : lawBody w = body
theorem LawIs.mk' {w : World} {name qual : Str} {params : Arguments} {body : List Stmt} {scope : Scope} {dV kV doc pm cdv ct oc : Value} {an od : Option Addr} {osl : Array (Option Value)}
    (ho : (Mine.hd.heap_39 w.params).lookup 769 = some ⟨oc, od, .func (fnOf name qual params body scope dV kV doc pm an cdv ct), osl⟩) : LawIs w name scope body := by
  have e : lawFn w = fnOf name qual params body scope dV kV doc pm an cdv ct := by unfold lawFn; rw [ho]
  exact ⟨by rw [e], by rw [e], by unfold lawBody; rw [e]⟩
theorem LawIs.start {w : World} {name name' qual : Str} {params : Arguments} {body body' : List Stmt} {scope scope' : Scope} {dV kV doc pm cdv ct oc : Value} {an od : Option Addr} {osl : Array (Option Value)} {P : Str → Scope → List Stmt → Prop} (x : LawIs w name' scope' body')
    (ho : (Mine.hd.heap_39 w.params).lookup 769 = some ⟨oc, od, .func (fnOf name qual params body scope dV kV doc pm an cdv ct), osl⟩) (h : P name scope body) : P name' scope' body' := by
  have y := LawIs.mk' ho
  rw [← x.name, ← x.scope, ← x.body, y.name, y.scope, y.body]
  exact h
noncomputable def LawEnd (B : Heap) (L : Addr) (s : Shared) (v : Value) (s' : Shared) : Prop :=
  v = .bool true ∧ ∃ h' tk' m' p1 p2 p3 p4, s' = { s with heap := h', toks := tk' } ∧ Fr B L h' m' ∧ News B L h' [(761, tabObj p1), (754, tabObj p2), (749, tabObj p3), (766, tabObj p4)]
theorem LawEnd.intro {B h0 g h' : Heap} {L : Addr} {s : Shared} {tk' : Nat} {m' : Str → Option Value} {p1 p2 p3 p4 : Array Value} {all : List (Addr × Obj)} (hBL : @LE.le Nat _ B.objs.size L) (G : Gr B h0 g []) (F : Fr g L h' m') (N : News g L h' all)
    (m1 : (761, tabObj p1) ∈ all) (m2 : (754, tabObj p2) ∈ all) (m3 : (749, tabObj p3) ∈ all) (m4 : (766, tabObj p4) ∈ all) : LawEnd B L s (.bool true) { s with heap := h', toks := tk' } := by
  refine ⟨rfl, h', tk', m', p1, p2, p3, p4, rfl, ⟨F.ns, fun b o q => F.keep b o (G.base b o q), hBL⟩, fun p hp => ?_⟩
  have hm : p ∈ all := by
    simp only [List.mem_cons, List.not_mem_nil, or_false] at hp
    rcases hp with rfl | rfl | rfl | rfl <;> assumption
  refine ⟨(N p hm).1, (N p hm).2.1, ?_⟩
  cases q : B.get? p.1 with
  | none => rfl
  | some o => have := G.base _ _ q; rw [(N p hm).2.2] at this; cases this
inductive OwnIs : Value → Addr → Obj → Addr → Obj → Int → Prop
  | int (n : Int) (t : Tok) (a e : Addr) (ao eo : Obj) : OwnIs (.int n t) a ao e eo n
  | mark {a e b : Addr} {n : Int} {t : Tok} {es : List DictEntry} {k : Nat} : getL (Str.ofString "buffer") es = some (some (.ref b)) → getL (Str.ofString "position") es = some (some (.int n t)) → OwnIs (.ref a) a (instObj 155 e) e (dictOf es k) n
structure NRow where
  D : Addr
  own : Value
  n : Int
  t : Tok
  k : Nat
  a : Addr
  ao : Obj
  e : Addr
  eo : Obj
noncomputable def NRow.ents (x : NRow) : List (Addr × Obj) := [(x.D, listOf #[x.own, .int x.n x.t] x.k), (x.a, x.ao), (x.e, x.eo)]
noncomputable def NRow.ok (x : NRow) : Prop := OwnIs x.own x.a x.ao x.e x.eo x.n ∧ Builtin.Int.intBits x.n ≤ 70
noncomputable def RowsO (w : World) (c : Nat) (o : Obj) : Prop := ∃ kvs, o.IsDictOf (intKind Challenge.rw_np0089_01.row.prog w) kvs ∧ kvs.length ≤ c
theorem RowsO.mono {w : World} {c c' : Nat} {o : Obj} (x : RowsO w c o) (h : c ≤ c') : RowsO w c' o := let ⟨k, a, b⟩ := x; ⟨k, a, Nat.le_trans b h⟩
noncomputable abbrev bufE (b db gt dg mk dm cc : Addr) (es es2 es3 : List DictEntry) (k k2 k3 kc : Nat) (cs : List Value) : List (Addr × Obj) :=
  [(b, instObj 631 db), (db, dictOf es k), (gt, instObj 525 dg), (dg, dictOf es2 k2), (mk, instObj 223 dm), (dm, dictOf es3 k3), (cc, listOf cs.toArray kc)]
structure BufOk (gt mk cc r : Addr) (es es2 es3 : List DictEntry) (cs : List Value) : Prop where
  text : getL (Str.ofString "text") es = some (some (.ref gt))
  markers : getL (Str.ofString "markers") es = some (some (.ref mk))
  cells : getL (Str.ofString "cells") es2 = some (some (.ref cc))
  start : ∃ t, getL (Str.ofString "gap_start") es2 = some (some (.int 5 t))
  gend : ∃ t, getL (Str.ofString "gap_end") es2 = some (some (.int 8 t))
  rows : getL (Str.ofString "rows") es3 = some (some (.ref r))
  len : cs.length = 8
  noput : getL (Str.ofString "put") es3 = some none
  nosize : getL (Str.ofString "size") es = some none
  nosize2 : getL (Str.ofString "size") es2 = some none
noncomputable def NumP (w : World) (c : Nat) (d r : Addr) (fix : List (Addr × Obj)) (y : Value) (news' : List (Addr × Obj)) : Prop :=
  ∃ (x : NRow) (o ro : Obj), y = .ref x.D ∧ x.ok ∧ news' = (x.D, listOf #[x.own, .int x.n x.t] x.k) :: (x.a, x.ao) :: (x.e, x.eo) :: (d, o) :: (r, ro) :: fix ∧ DeckO o ∧ RowsO w (c + 1) ro ∧ (∀ p ∈ x.ents, @Ne Nat p.1 d) ∧ (∀ p ∈ x.ents, @Ne Nat p.1 r)
theorem NumP.int {w : World} {c : Nat} {d r D : Addr} {fix : List (Addr × Obj)} {n : Int} {t t' : Tok} {k : Nat} {o ro : Obj} (hb : Builtin.Int.intBits n ≤ 70) (hK : DeckO o) (hR : RowsO w (c + 1) ro) (h1 : @Ne Nat D d) (h2 : @Ne Nat D r) :
    NumP w c d r fix (.ref D) ((D, listOf #[.int n t, .int n t'] k) :: (D, listOf #[.int n t, .int n t'] k) :: (D, listOf #[.int n t, .int n t'] k) :: (d, o) :: (r, ro) :: fix) :=
  ⟨⟨D, .int n t, n, t', k, D, listOf #[.int n t, .int n t'] k, D, listOf #[.int n t, .int n t'] k⟩, o, ro, rfl, ⟨.int n t _ _ _ _, hb⟩, rfl, hK, hR, by simp only [NRow.ents, List.mem_cons, List.not_mem_nil, or_false]; rintro p (rfl | rfl | rfl) <;> assumption, by simp only [NRow.ents, List.mem_cons, List.not_mem_nil, or_false]; rintro p (rfl | rfl | rfl) <;> assumption⟩
theorem NumP.mark {w : World} {c : Nat} {d r D a e b : Addr} {fix : List (Addr × Obj)} {n : Int} {t t' : Tok} {k k' : Nat} {es : List DictEntry} {o ro : Obj} (g1 : getL (Str.ofString "buffer") es = some (some (.ref b))) (g2 : getL (Str.ofString "position") es = some (some (.int n t))) (hb : Builtin.Int.intBits n ≤ 70) (hK : DeckO o) (hR : RowsO w (c + 1) ro)
    (h1 : @Ne Nat D d) (h2 : @Ne Nat D r) (h3 : @Ne Nat a d) (h4 : @Ne Nat a r) (h5 : @Ne Nat e d) (h6 : @Ne Nat e r) :
    NumP w c d r fix (.ref D) ((D, listOf #[.ref a, .int n t'] k) :: (a, instObj 155 e) :: (e, dictOf es k') :: (d, o) :: (r, ro) :: fix) :=
  ⟨⟨D, .ref a, n, t', k, a, instObj 155 e, e, dictOf es k'⟩, o, ro, rfl, ⟨.mark g1 g2, hb⟩, rfl, hK, hR, by simp only [NRow.ents, List.mem_cons, List.not_mem_nil, or_false]; rintro p (rfl | rfl | rfl) <;> assumption, by simp only [NRow.ents, List.mem_cons, List.not_mem_nil, or_false]; rintro p (rfl | rfl | rfl) <;> assumption⟩
theorem neTwo {a b : Addr} {o o' : Obj} {rest news' : List (Addr × Obj)} (h : ∀ p ∈ rest, ∀ q ∈ news', @Ne Nat p.1 q.1) (h1 : (a, o) ∈ rest) (h2 : (b, o') ∈ news') : a ≠ b := h _ h1 _ h2
theorem neTwo2 {a b : Addr} {o o' : Obj} {rest news' : List (Addr × Obj)} (h : ∀ p ∈ rest, ∀ q ∈ news', @Ne Nat p.1 q.1) (h1 : (a, o) ∈ rest) (h2 : (b, o') ∈ news') : b ≠ a := fun q => h _ h1 _ h2 q.symm
end Mine.Internal
namespace Mine.Internal
theorem bits70 {n : Int} (h1 : -(2 ^ 70) < n) (h2 : n < 2 ^ 70) : Builtin.Int.intBits n ≤ 70 := by
  unfold Builtin.Int.intBits
  split
  · lia
  · rename_i h
    have h3 : n.natAbs < 2 ^ 70 := by lia
    have h4 : n.natAbs ≠ 0 := by
      intro e
      simp_all
    have := (Nat.log2_lt h4).mpr h3
    lia
theorem News.get3 {h₀ h : Heap} {L a : Addr} {o : Obj} {news : List (Addr × Obj)} (N : News h₀ L h news) (hm : (a, o) ∈ news) : h₀.get? a = none := (N _ hm).2.2
section
variable {w : World} {A : Around} {E : Value → Shared → Prop} {s : Shared} {h₀ : Heap} {L d : Addr} {m : Str → Option Value} {news : List (Addr × Obj)} {g : Obj → List (Addr × Obj)} {o : Obj}
theorem rows_set {c : Nat} {k : Int} {t : Tok} {v : Value} {Q : Unit → Shared → Prop} (F : Fr h₀ L s.heap m) (N : News h₀ L s.heap news) (U : UpdF d o news g) (hR : RowsO w c o) (hc : c ≤ 1000)
    (h : ∀ h' o', Fr h₀ L h' m → News h₀ L h' (g o') → RowsO w (c + 1) o' → Q () { s with heap := h', toks := s.toks + 1 }) : wpAny (model Challenge.rw_np0089_01.row.prog w) A (setItem (.ref d) (.int k t) v) Q E s := by
  obtain ⟨kvs, hd, hl⟩ := hR
  exact kda_set F N U hd (intKind_is _ _ k t) (by rw [PySem.sizeLine_eq]; lia) fun h' o' F' N' hd' => h h' o' F' N' ⟨_, hd', Nat.le_trans (stored_length_le kvs k v) (by lia)⟩
end
theorem RetG.int {w : World} {c : Nat} {d r D : Addr} {fix : List (Addr × Obj)} {n : Int} {t t' : Tok} {k : Nat} {o ro : Obj} {g h' : Heap} {s : Shared} {tk' : Nat} {L : Addr} {m : Str → Option Value} {all : List (Addr × Obj)} (F : Fr g L h' m) (N : News g L h' all) (i1 : (D, listOf #[.int n t, .int n t'] k) ∈ all) (i4 : (d, o) ∈ all) (i5 : (r, ro) ∈ all)
    (i6 : ∀ p ∈ fix, p ∈ all) (hK : DeckO o) (hR : RowsO w (c + 1) ro) (h1 : @Ne Nat D d) (h2 : @Ne Nat D r) (hb : Builtin.Int.intBits n ≤ 70) : RetG g (NumP w c d r fix) s (.ref D) { s with heap := h', toks := tk' } :=
  RetG.intro F N (List.forall_mem_cons.mpr ⟨i1, List.forall_mem_cons.mpr ⟨i1, List.forall_mem_cons.mpr ⟨i1, List.forall_mem_cons.mpr ⟨i4, List.forall_mem_cons.mpr ⟨i5, i6⟩⟩⟩⟩⟩) (NumP.int hb hK hR h1 h2)
theorem RetG.mark {w : World} {c : Nat} {d r D a e b : Addr} {fix : List (Addr × Obj)} {n : Int} {t t' : Tok} {k k' : Nat} {es : List DictEntry} {o ro : Obj} {g h' : Heap} {s : Shared} {tk' : Nat} {L : Addr} {m : Str → Option Value} {all : List (Addr × Obj)} (F : Fr g L h' m) (N : News g L h' all)
    (i1 : (D, listOf #[.ref a, .int n t'] k) ∈ all) (i2 : (a, instObj 155 e) ∈ all) (i3 : (e, dictOf es k') ∈ all) (i4 : (d, o) ∈ all) (i5 : (r, ro) ∈ all) (i6 : ∀ p ∈ fix, p ∈ all) (g1 : getL (Str.ofString "buffer") es = some (some (.ref b))) (g2 : getL (Str.ofString "position") es = some (some (.int n t)))
    (hK : DeckO o) (hR : RowsO w (c + 1) ro) (h1 : @Ne Nat D d) (h2 : @Ne Nat D r) (h3 : @Ne Nat a d) (h4 : @Ne Nat a r) (h5 : @Ne Nat e d) (h6 : @Ne Nat e r) (hb : Builtin.Int.intBits n ≤ 70) : RetG g (NumP w c d r fix) s (.ref D) { s with heap := h', toks := tk' } :=
  RetG.intro F N (List.forall_mem_cons.mpr ⟨i1, List.forall_mem_cons.mpr ⟨i2, List.forall_mem_cons.mpr ⟨i3, List.forall_mem_cons.mpr ⟨i4, List.forall_mem_cons.mpr ⟨i5, i6⟩⟩⟩⟩⟩) (NumP.mark g1 g2 hb hK hR h1 h2 h3 h4 h5 h6)
section
variable {prog : Program} {w : World} {A : Around} {E : Value → Shared → Prop} {s : Shared} {t u : Tok} {Q : Value → Shared → Prop}
theorem pow_lit21 (h : Q (.int 1000000000000000000000 s.toks) { s with toks := s.toks + 1 }) : wpAny (model prog w) A (binaryOp .Pow (.int 10 t) (.int 21 u)) Q E s :=
  pow_int (by decide) (by decide) (by rw [show (10 : Int) ^ (21 : Int).toNat = 1000000000000000000000 by decide]; exact h)
theorem pow_lit20 (h : Q (.int 100000000000000000000 s.toks) { s with toks := s.toks + 1 }) : wpAny (model prog w) A (binaryOp .Pow (.int 10 t) (.int 20 u)) Q E s :=
  pow_int (by decide) (by decide) (by rw [show (10 : Int) ^ (20 : Int).toNat = 100000000000000000000 by decide]; exact h)
theorem mul_lit5 (h : Q (.int 500000000000000000000 s.toks) { s with toks := s.toks + 1 }) : wpAny (model prog w) A (binaryOp .Mult (.int 5 t) (.int 100000000000000000000 u)) Q E s :=
  PyProof.Rows.mul_int (by rw [show (5 : Int) * 100000000000000000000 = 500000000000000000000 by decide]; exact h) (by mul_fits)
theorem sub_gen {a b : Int} (h : ∀ z, z = a - b → Q (.int z s.toks) { s with toks := s.toks + 1 }) : wpAny (model prog w) A (binaryOp .Sub (.int a t) (.int b u)) Q E s := PyProof.Rows.sub_int (h _ rfl)
end
inductive SubGen : Prop
  | mk
end Mine.Internal
namespace Mine.Internal
theorem len_succ {cs : List Value} {n : Nat} (h : cs.length = n + 1) : ∃ c r, cs = c :: r ∧ r.length = n := by
  cases cs with
  | nil => cases h
  | cons c r => exact ⟨c, r, rfl, Nat.succ.inj h⟩
theorem len8 {r : List Value} (h : r.length = 8) : ∃ c0 c1 c2 c3 c4 c5 c6 c7, r = [c0, c1, c2, c3, c4, c5, c6, c7] := by
  obtain ⟨c0, r0, rfl, h0⟩ := len_succ h
  obtain ⟨c1, r1, rfl, h1⟩ := len_succ h0
  obtain ⟨c2, r2, rfl, h2⟩ := len_succ h1
  obtain ⟨c3, r3, rfl, h3⟩ := len_succ h2
  obtain ⟨c4, r4, rfl, h4⟩ := len_succ h3
  obtain ⟨c5, r5, rfl, h5⟩ := len_succ h4
  obtain ⟨c6, r6, rfl, h6⟩ := len_succ h5
  obtain ⟨c7, r7, rfl, h7⟩ := len_succ h6
  obtain rfl := List.eq_nil_of_length_eq_zero h7
  exact ⟨_, _, _, _, _, _, _, _, rfl⟩
namespace num_core_e
noncomputable def zzQ (w : World) (B : Heap) (d : Addr) (r : Addr) (b : Addr) (db : Addr) (gt : Addr) (dg : Addr) (mk : Addr) (dm : Addr) (cc : Addr) (es : List DictEntry) (es2 : List DictEntry) (es3 : List DictEntry) (k : Nat) (k2 : Nat) (k3 : Nat) (kc : Nat) (c0 : Value) (c1 : Value) (c2 : Value) (c3 : Value) (c4 : Value) (c5 : Value) (c6 : Value) (c7 : Value) (t4 : Tok) (t5 : Tok) (o : Obj) (ro : Obj) (c : Nat) : Prop := ∀ S : Std w B, ∀ hBn : ∀ p ∈ (d, o) :: (r, ro) :: bufE b db gt dg mk dm cc es es2 es3 k k2 k3 kc [c0, c1, c2, c3, c4, c5, c6, c7], B.get? p.1 = none, ∀ hK : DeckO o, ∀ hR : RowsO w c ro, ∀ hc : c ≤ 1000, ∀ k1' : getL (Str.ofString "text") es = some (some (.ref gt)), ∀ k2' : getL (Str.ofString "markers") es = some (some (.ref mk)), ∀ k3' : getL (Str.ofString "cells") es2 = some (some (.ref cc)), ∀ k4' : getL (Str.ofString "gap_start") es2 = some (some (.int 5 t4)), ∀ k5' : getL (Str.ofString "gap_end") es2 = some (some (.int 8 t5)), ∀ k6' : getL (Str.ofString "rows") es3 = some (some (.ref r)), ∀ k8' : getL (Str.ofString "put") es3 = some none, ∀ k9' : getL (Str.ofString "size") es = some none, ∀ k10' : getL (Str.ofString "size") es2 = some none, ∀ hne1 : ∀ p ∈ (r, ro) :: bufE b db gt dg mk dm cc es es2 es3 k k2 k3 kc [c0, c1, c2, c3, c4, c5, c6, c7], @Ne Nat p.1 d, ∀ hne2 : ∀ p ∈ (d, o) :: bufE b db gt dg mk dm cc es es2 es3 k k2 k3 kc [c0, c1, c2, c3, c4, c5, c6, c7], @Ne Nat p.1 r, CallsG w 350 (.ref 716) [.ref d, .ref b] B ((d, o) :: (r, ro) :: bufE b db gt dg mk dm cc es es2 es3 k k2 k3 kc [c0, c1, c2, c3, c4, c5, c6, c7]) (fun _ => True) (NumP w c d r (bufE b db gt dg mk dm cc es es2 es3 k k2 k3 kc [c0, c1, c2, c3, c4, c5, c6, c7]))
noncomputable abbrev zzT : Type := World × Heap × Addr × Addr × Addr × Addr × Addr × Addr × Addr × Addr × Addr × (List DictEntry) × (List DictEntry) × (List DictEntry) × Nat × Nat × Nat × Nat × Value × Value × Value × Value × Value × Value × Value × Value × Tok × Tok × Obj × Obj × Nat
noncomputable def zzS (z : zzT) : Prop := zzQ z.1 z.2.1 z.2.2.1 z.2.2.2.1 z.2.2.2.2.1 z.2.2.2.2.2.1 z.2.2.2.2.2.2.1 z.2.2.2.2.2.2.2.1 z.2.2.2.2.2.2.2.2.1 z.2.2.2.2.2.2.2.2.2.1 z.2.2.2.2.2.2.2.2.2.2.1 z.2.2.2.2.2.2.2.2.2.2.2.1 z.2.2.2.2.2.2.2.2.2.2.2.2.1 z.2.2.2.2.2.2.2.2.2.2.2.2.2.1 z.2.2.2.2.2.2.2.2.2.2.2.2.2.2.1 z.2.2.2.2.2.2.2.2.2.2.2.2.2.2.2.1 z.2.2.2.2.2.2.2.2.2.2.2.2.2.2.2.2.1 z.2.2.2.2.2.2.2.2.2.2.2.2.2.2.2.2.2.1 z.2.2.2.2.2.2.2.2.2.2.2.2.2.2.2.2.2.2.1 z.2.2.2.2.2.2.2.2.2.2.2.2.2.2.2.2.2.2.2.1 z.2.2.2.2.2.2.2.2.2.2.2.2.2.2.2.2.2.2.2.2.1 z.2.2.2.2.2.2.2.2.2.2.2.2.2.2.2.2.2.2.2.2.2.1 z.2.2.2.2.2.2.2.2.2.2.2.2.2.2.2.2.2.2.2.2.2.2.1 z.2.2.2.2.2.2.2.2.2.2.2.2.2.2.2.2.2.2.2.2.2.2.2.1 z.2.2.2.2.2.2.2.2.2.2.2.2.2.2.2.2.2.2.2.2.2.2.2.2.1 z.2.2.2.2.2.2.2.2.2.2.2.2.2.2.2.2.2.2.2.2.2.2.2.2.2.1 z.2.2.2.2.2.2.2.2.2.2.2.2.2.2.2.2.2.2.2.2.2.2.2.2.2.2.1 z.2.2.2.2.2.2.2.2.2.2.2.2.2.2.2.2.2.2.2.2.2.2.2.2.2.2.2.1 z.2.2.2.2.2.2.2.2.2.2.2.2.2.2.2.2.2.2.2.2.2.2.2.2.2.2.2.2.1 z.2.2.2.2.2.2.2.2.2.2.2.2.2.2.2.2.2.2.2.2.2.2.2.2.2.2.2.2.2.1 z.2.2.2.2.2.2.2.2.2.2.2.2.2.2.2.2.2.2.2.2.2.2.2.2.2.2.2.2.2.2
noncomputable def zzc : zzT := @Classical.epsilon zzT ⟨(zw, cN, cN, cN, cN, cN, cN, cN, cN, cN, cN, cN, cN, cN, cN, cN, cN, cN, cN, cN, cN, cN, cN, cN, cN, cN, cN, cN, cN, cN, cN)⟩ fun z => ¬ zzS z
@[irreducible] def w : World := zzc.1
@[irreducible] def B : Heap := zzc.2.1
@[irreducible] def d : Addr := zzc.2.2.1
@[irreducible] def r : Addr := zzc.2.2.2.1
@[irreducible] def b : Addr := zzc.2.2.2.2.1
@[irreducible] def db : Addr := zzc.2.2.2.2.2.1
@[irreducible] def gt : Addr := zzc.2.2.2.2.2.2.1
@[irreducible] def dg : Addr := zzc.2.2.2.2.2.2.2.1
@[irreducible] def mk : Addr := zzc.2.2.2.2.2.2.2.2.1
@[irreducible] def dm : Addr := zzc.2.2.2.2.2.2.2.2.2.1
@[irreducible] def cc : Addr := zzc.2.2.2.2.2.2.2.2.2.2.1
@[irreducible] def es : List DictEntry := zzc.2.2.2.2.2.2.2.2.2.2.2.1
@[irreducible] def es2 : List DictEntry := zzc.2.2.2.2.2.2.2.2.2.2.2.2.1
@[irreducible] def es3 : List DictEntry := zzc.2.2.2.2.2.2.2.2.2.2.2.2.2.1
@[irreducible] def k : Nat := zzc.2.2.2.2.2.2.2.2.2.2.2.2.2.2.1
@[irreducible] def k2 : Nat := zzc.2.2.2.2.2.2.2.2.2.2.2.2.2.2.2.1
@[irreducible] def k3 : Nat := zzc.2.2.2.2.2.2.2.2.2.2.2.2.2.2.2.2.1
@[irreducible] def kc : Nat := zzc.2.2.2.2.2.2.2.2.2.2.2.2.2.2.2.2.2.1
@[irreducible] def c0 : Value := zzc.2.2.2.2.2.2.2.2.2.2.2.2.2.2.2.2.2.2.1
@[irreducible] def c1 : Value := zzc.2.2.2.2.2.2.2.2.2.2.2.2.2.2.2.2.2.2.2.1
@[irreducible] def c2 : Value := zzc.2.2.2.2.2.2.2.2.2.2.2.2.2.2.2.2.2.2.2.2.1
@[irreducible] def c3 : Value := zzc.2.2.2.2.2.2.2.2.2.2.2.2.2.2.2.2.2.2.2.2.2.1
@[irreducible] def c4 : Value := zzc.2.2.2.2.2.2.2.2.2.2.2.2.2.2.2.2.2.2.2.2.2.2.1
@[irreducible] def c5 : Value := zzc.2.2.2.2.2.2.2.2.2.2.2.2.2.2.2.2.2.2.2.2.2.2.2.1
@[irreducible] def c6 : Value := zzc.2.2.2.2.2.2.2.2.2.2.2.2.2.2.2.2.2.2.2.2.2.2.2.2.1
@[irreducible] def c7 : Value := zzc.2.2.2.2.2.2.2.2.2.2.2.2.2.2.2.2.2.2.2.2.2.2.2.2.2.1
@[irreducible] def t4 : Tok := zzc.2.2.2.2.2.2.2.2.2.2.2.2.2.2.2.2.2.2.2.2.2.2.2.2.2.2.1
@[irreducible] def t5 : Tok := zzc.2.2.2.2.2.2.2.2.2.2.2.2.2.2.2.2.2.2.2.2.2.2.2.2.2.2.2.1
@[irreducible] def o : Obj := zzc.2.2.2.2.2.2.2.2.2.2.2.2.2.2.2.2.2.2.2.2.2.2.2.2.2.2.2.2.1
@[irreducible] def ro : Obj := zzc.2.2.2.2.2.2.2.2.2.2.2.2.2.2.2.2.2.2.2.2.2.2.2.2.2.2.2.2.2.1
@[irreducible] def c : Nat := zzc.2.2.2.2.2.2.2.2.2.2.2.2.2.2.2.2.2.2.2.2.2.2.2.2.2.2.2.2.2.2
theorem zzcore : zzQ w B d r b db gt dg mk dm cc es es2 es3 k k2 k3 kc c0 c1 c2 c3 c4 c5 c6 c7 t4 t5 o ro c := by
 k_with "e_q" =>
  intro S hBn hK hR hc k1' k2' k3' k4' k5' k6' k8' k9' k10' hne1 hne2
  have zOn : ZOn := .mk
  have hgen : SubGen := .mk
  k_with "m_pos" => first | decide | lia
  k_with "m_log" => decide
  k_with "m_bits" => exact bits70 (by lia) (by lia)
  walk_at "m_genter"
  k_steps
 k_extra "e_Q"
end num_core_e
theorem num_core {w : World} {B : Heap} {d r b db gt dg mk dm cc : Addr} {es es2 es3 : List DictEntry} {k k2 k3 kc : Nat} {c0 c1 c2 c3 c4 c5 c6 c7 : Value} {t4 t5 : Tok} {o ro : Obj} {c : Nat} (S : Std w B)
    (hBn : ∀ p ∈ (d, o) :: (r, ro) :: bufE b db gt dg mk dm cc es es2 es3 k k2 k3 kc [c0, c1, c2, c3, c4, c5, c6, c7], B.get? p.1 = none) (hK : DeckO o) (hR : RowsO w c ro) (hc : c ≤ 1000) (k1' : getL (Str.ofString "text") es = some (some (.ref gt))) (k2' : getL (Str.ofString "markers") es = some (some (.ref mk))) (k3' : getL (Str.ofString "cells") es2 = some (some (.ref cc))) (k4' : getL (Str.ofString "gap_start") es2 = some (some (.int 5 t4))) (k5' : getL (Str.ofString "gap_end") es2 = some (some (.int 8 t5))) (k6' : getL (Str.ofString "rows") es3 = some (some (.ref r))) (k8' : getL (Str.ofString "put") es3 = some none) (k9' : getL (Str.ofString "size") es = some none) (k10' : getL (Str.ofString "size") es2 = some none)
    (hne1 : ∀ p ∈ (r, ro) :: bufE b db gt dg mk dm cc es es2 es3 k k2 k3 kc [c0, c1, c2, c3, c4, c5, c6, c7], @Ne Nat p.1 d) (hne2 : ∀ p ∈ (d, o) :: bufE b db gt dg mk dm cc es es2 es3 k k2 k3 kc [c0, c1, c2, c3, c4, c5, c6, c7], @Ne Nat p.1 r) : CallsG w 350 (.ref 716) [.ref d, .ref b] B ((d, o) :: (r, ro) :: bufE b db gt dg mk dm cc es es2 es3 k k2 k3 kc [c0, c1, c2, c3, c4, c5, c6, c7]) (fun _ => True) (NumP w c d r (bufE b db gt dg mk dm cc es es2 es3 k k2 k3 kc [c0, c1, c2, c3, c4, c5, c6, c7])) := epsU (P := num_core_e.zzS) (by with_unfolding_all exact num_core_e.zzcore) (w, B, d, r, b, db, gt, dg, mk, dm, cc, es, es2, es3, k, k2, k3, kc, c0, c1, c2, c3, c4, c5, c6, c7, t4, t5, o, ro, c) S hBn hK hR hc k1' k2' k3' k4' k5' k6' k8' k9' k10' hne1 hne2
theorem num_calls {w : World} {B : Heap} {d r b db gt dg mk dm cc : Addr} {es es2 es3 : List DictEntry} {k k2 k3 kc : Nat} {cs : List Value} {o ro : Obj} {c : Nat} (S : Std w B)
    (hBn : ∀ p ∈ (d, o) :: (r, ro) :: bufE b db gt dg mk dm cc es es2 es3 k k2 k3 kc cs, B.get? p.1 = none) (hK : DeckO o) (hR : RowsO w c ro) (hc : c ≤ 1000) (hok : BufOk gt mk cc r es es2 es3 cs)
    (hne1 : ∀ p ∈ (r, ro) :: bufE b db gt dg mk dm cc es es2 es3 k k2 k3 kc cs, @Ne Nat p.1 d) (hne2 : ∀ p ∈ (d, o) :: bufE b db gt dg mk dm cc es es2 es3 k k2 k3 kc cs, @Ne Nat p.1 r) :
    CallsG w 350 (.ref 716) [.ref d, .ref b] B ((d, o) :: (r, ro) :: bufE b db gt dg mk dm cc es es2 es3 k k2 k3 kc cs) (fun _ => True) (NumP w c d r (bufE b db gt dg mk dm cc es es2 es3 k k2 k3 kc cs)) := by
  obtain ⟨k1, k2, k3, ⟨_, k4⟩, ⟨_, k5⟩, k6, k7, k8, k9, k10⟩ := hok
  obtain ⟨c0, c1, c2, c3, c4, c5, c6, c7, rfl⟩ := len8 k7
  exact num_core S hBn hK hR hc k1 k2 k3 k4 k5 k6 k8 k9 k10 hne1 hne2
end Mine.Internal
namespace Mine.Internal
theorem num_keep {h h' : Heap} {d r : Addr} {o ro : Obj} {bufs : List (Addr × Obj)} (hb : ∀ p ∈ bufs, h.get? p.1 = some p.2) (st : (hideAll h (adr ((d, o) :: (r, ro) :: bufs))).StaysIn h') (hbn : ∀ p ∈ bufs, h'.get? p.1 = some p.2) :
    ∀ a v, a ≠ d → a ≠ r → h.get? a = some v → h'.get? a = some v := fun a v h1 h2 e => by
  by_cases hm : a ∈ adr ((d, o) :: (r, ro) :: bufs)
  · rcases List.mem_cons.mp hm with hm | hm
    · exact absurd hm h1
    · rcases List.mem_cons.mp hm with hm | hm
      · exact absurd hm h2
      · obtain ⟨p, hp, q⟩ := List.mem_map.mp hm
        have q' : p.1 = a := q
        rw [← q'] at e ⊢
        rw [hb p hp] at e; cases e
        exact hbn p hp
  · exact st a v (hideAll_get _ e hm)
section
variable {w : World} {B h g h' : Heap} {l : List Env} {name : Str} {scope : Scope} {L a : Addr} {cd : Value} {cl : List (Str × Addr)} {s : Shared} {m : Str → Option Value} {all : List (Addr × Obj)}
theorem num_use {n c : Nat} {f : Value} {args : List Value} {A : Around} {Q E : Value → Shared → Prop} {d r : Addr} {o ro : Obj} {bufs : List (Addr × Obj)} {up : Obj → List (Addr × Obj)} {up2 : Obj → Obj → List (Addr × Obj)} (G : Gr B h g l) (F : Fr g L s.heap m) (N : News g L s.heap all) (hfr : A.frames = some (envX name scope L a cd cl :: l)) (hk : scope.kind ≠ .module)
    (U1 : UpdF d o all up) (U2 : ∀ o', UpdF r ro (up o') (up2 o')) (hbs : ∀ p ∈ bufs, p ∈ all)
    (C : CallsG w n f args B ((d, o) :: (r, ro) :: bufs) (fun _ => True) (NumP w c d r bufs))
    (k : ∀ h' tk' (x : NRow) o' ro', x.ok → DeckO o' → RowsO w (c + 1) ro' → (∀ p ∈ x.ents, @Ne Nat p.1 d) → (∀ p ∈ x.ents, @Ne Nat p.1 r) → Fr g L h' m → News g L h' ((x.D, listOf #[x.own, .int x.n x.t] x.k) :: (x.a, x.ao) :: (x.e, x.eo) :: up2 o' ro') → Q (.ref x.D) { s with heap := h', toks := tk' })
    (hh : autoParam (A.handled = none) auR) (hd : autoParam (A.depth ≤ n) auL) (hu : autoParam (A.units ≤ 8 * n) auL) :
    wpAny (model Challenge.rw_np0089_01.row.prog w) A (call f args) Q E s := by
  obtain ⟨pre, post, e1, e2, e3, e4⟩ := U1.split
  have hmd : (d, o) ∈ all := by rw [e1]; simp
  have hmr : (r, ro) ∈ up o := by obtain ⟨p2, q2, f1, _⟩ := (U2 o).split; rw [f1]; simp
  have hmr' : (r, ro) ∈ all := by rw [e2] at hmr; rw [e1]; exact hmr
  have sub : ∀ p ∈ (d, o) :: (r, ro) :: bufs, p ∈ all := List.forall_mem_cons.mpr ⟨hmd, List.forall_mem_cons.mpr ⟨hmr', hbs⟩⟩
  obtain ⟨oL, es, ep, eL, e2', _⟩ := id F.ns
  have hf : s.heap.FunFrames B (envX name scope L a cd cl :: l) := ⟨hk, ⟨L, oL, rfl, by
    cases q : B.get? L with
    | none => rfl
    | some o => exact absurd (Nat.lt_of_lt_of_le (Heap.lt_size (G.base _ _ q)) F.above) (Nat.lt_irrefl _), eL, fun vs q => by rw [e2'] at q; cases q⟩, funFrames_up G.frames F.keep⟩
  have gD : g.StaysIn (hideAll s.heap (adr ((d, o) :: (r, ro) :: bufs))) := fun b o q => hideAll_get _ (F.keep b o q) fun hm => by
    obtain ⟨p, hp, e⟩ := List.mem_map.mp hm
    have := (N p (sub p hp)).2.2
    rw [show p.1 = b from e, q] at this; cases this
  have hL : L ∉ adr ((d, o) :: (r, ro) :: bufs) := fun hm => by
    obtain ⟨p, hp, e⟩ := List.mem_map.mp hm
    exact (N p (sub p hp)).2.1 e
  refine C A s _ Q E hh hd hu hfr (fun b o q => F.keep _ _ (G.base _ _ q)) hf (fun p hp => (N p (sub p hp)).1) (fun p hp hm => ?_) trivial fun v h' tk' news' pv st ns => ?_
  · rcases List.mem_cons.mp hm with hm | hm
    · exact (N p (sub p hp)).2.1 hm
    · obtain ⟨o', e1, _⟩ := gr_not G.frames _ hm
      rw [(N p (sub p hp)).2.2] at e1; cases e1
  · obtain ⟨x, o', ro', rfl, ok, rfl, hK, hR, n1, n2⟩ := pv
    have keep := num_keep (fun p hp => (N p (hbs p hp)).1) st (fun p hp => (ns p (by simp [hp])).1)
    have fresh : ∀ p, (hideAll s.heap (adr ((d, o) :: (r, ro) :: bufs))).get? p = none → p ≠ L ∧ g.get? p = none := fun p hp => by
      refine ⟨fun e => ?_, ?_⟩
      · rw [e, hideAll_get _ eL hL] at hp; cases hp
      · cases q : g.get? p with
        | none => rfl
        | some o => rw [gD _ _ q] at hp; cases hp
    refine k h' tk' x o' ro' ok hK hR n1 n2 ⟨F.ns.at' fun o e => st L o (hideAll_get _ e hL), fun b o q => st b o (gD b o q), F.above⟩ fun p hp => ?_
    obtain ⟨p2, q2, f1, f2, f3, f4⟩ := (U2 o').split
    have old : ∀ q ∈ all, q.1 ≠ d → q.1 ≠ r → h'.get? q.1 = some q.2 ∧ q.1 ≠ L ∧ g.get? q.1 = none := fun q hq h1 h2 => ⟨keep _ _ h1 h2 (N q hq).1, (N q hq).2⟩
    have mid : ∀ q ∈ up o', q.1 ≠ r → h'.get? q.1 = some q.2 ∧ q.1 ≠ L ∧ g.get? q.1 = none := fun q hq h2 => by
      rw [e2] at hq
      rcases List.mem_append.mp hq with hq | hq
      · exact old q (by rw [e1]; exact List.mem_append_left _ hq) (e3 q hq) h2
      · rcases List.mem_cons.mp hq with rfl | hq
        · exact ⟨(ns (d, o') (.tail _ (.tail _ (.tail _ (.head _))))).1, (N _ hmd).2⟩
        · exact old q (by rw [e1]; exact List.mem_append_right _ (List.mem_cons_of_mem _ hq)) (e4 q hq) h2
    rcases List.mem_cons.mp hp with rfl | hp
    · have z := ns (x.D, listOf #[x.own, .int x.n x.t] x.k) (by simp)
      exact ⟨z.1, fresh _ z.2⟩
    rcases List.mem_cons.mp hp with rfl | hp
    · have z := ns (x.a, x.ao) (by simp)
      exact ⟨z.1, fresh _ z.2⟩
    rcases List.mem_cons.mp hp with rfl | hp
    · have z := ns (x.e, x.eo) (by simp)
      exact ⟨z.1, fresh _ z.2⟩
    rw [f2] at hp
    rcases List.mem_append.mp hp with hp | hp
    · exact mid p (by rw [f1]; exact List.mem_append_left _ hp) (f3 p hp)
    · rcases List.mem_cons.mp hp with rfl | hp
      · exact ⟨(ns (r, ro') (.tail _ (.tail _ (.tail _ (.tail _ (.head _)))))).1, (N _ hmr').2⟩
      · exact mid p (by rw [f1]; exact List.mem_append_right _ (List.mem_cons_of_mem _ hp)) (f4 p hp)
theorem num_elt {n c : Nat} {f : Value} {args : List Value} {A : Around} {E : Value → Shared → Prop} {d r : Addr} {o ro : Obj} {bufs : List (Addr × Obj)} (G : Gr B h g l) (F : Fr g L s.heap m) (N : News g L s.heap all) (hfr : A.frames = some (envX name scope L a cd cl :: l)) (hk : scope.kind ≠ .module)
    (sub : ∀ p ∈ (d, o) :: (r, ro) :: bufs, p ∈ all) (C : CallsG w n f args B ((d, o) :: (r, ro) :: bufs) (fun _ => True) (NumP w c d r bufs))
    (hh : autoParam (A.handled = none) auR) (hd : autoParam (A.depth ≤ n) auL) (hu : autoParam (A.units ≤ 8 * n) auL) :
    wpAny (model Challenge.rw_np0089_01.row.prog w) A (call f args) (RetG (hideAll s.heap (adr ((d, o) :: (r, ro) :: bufs))) (NumP w c d r bufs) s) E s := by
  obtain ⟨oL, es, ep, eL, e2', _⟩ := id F.ns
  have hf : s.heap.FunFrames B (envX name scope L a cd cl :: l) := ⟨hk, ⟨L, oL, rfl, by
    cases q : B.get? L with
    | none => rfl
    | some o => exact absurd (Nat.lt_of_lt_of_le (Heap.lt_size (G.base _ _ q)) F.above) (Nat.lt_irrefl _), eL, fun vs q => by rw [e2'] at q; cases q⟩, funFrames_up G.frames F.keep⟩
  refine C A s _ _ E hh hd hu hfr (fun b o q => F.keep _ _ (G.base _ _ q)) hf (fun p hp => (N p (sub p hp)).1) (fun p hp hm => ?_) trivial fun v h' tk' news' pv st ns => ⟨h', tk', news', rfl, st, ns, pv⟩
  rcases List.mem_cons.mp hm with hm | hm
  · exact (N p (sub p hp)).2.1 hm
  · obtain ⟨o', e1, _⟩ := gr_not G.frames _ hm
    rw [(N p (sub p hp)).2.2] at e1; cases e1
end
noncomputable def EltN (prog : Program) (w : World) (A : Around) (g : Heap) (L : Addr) (m : Str → Option Value) (env : Env) (elt : Expr) (x : Str) (scope : Scope) (cl : List (Str × Addr)) (s : Shared) (d r : Addr) (bufs more : List (Addr × Obj)) : Prop :=
  ∀ (i : Nat) (o ro : Obj) (v : Value) I oI C oC D m₂ h tk ys, i < 4 → LCg.NsObj oC m₂ → m₂ x = some v → DeckO o → RowsO w i ro → Fr g L h m → News g L h ((I, oI) :: (C, oC) :: (D, LCg.lst ys) :: (d, o) :: (r, ro) :: (bufs ++ more)) →
    wpAny (model prog w) A (eval elt (compEnvC scope cl C env)) (RetG (hideAll h (adr ((d, o) :: (r, ro) :: bufs))) (NumP w i d r bufs) { s with heap := h, toks := tk }) (fun _ _ => False) { s with heap := h, toks := tk }
theorem comp_nums {w : World} {A : Around} {g : Heap} {L : Addr} {m : Str → Option Value} {env : Env} {elt : Expr} {x : Str} {scope : Scope} {cl : List (Str × Addr)} {s : Shared} {d r : Addr} {bufs more : List (Addr × Obj)} {P : Nat → Value → Prop} {Fin : List Value → List (Addr × Obj) → Prop} {o ro : Obj} {n : Nat}
    (hdr : @Ne Nat d r) (h1 : ∀ p ∈ bufs ++ more, @Ne Nat p.1 d ∧ @Ne Nat p.1 r) (hn : n ≤ 4) (K : EltN Challenge.rw_np0089_01.row.prog w A g L m env elt x scope cl s d r bufs more) (hK : DeckO o) (hR : RowsO w 0 ro)
    (fin : ∀ (rs : List NRow) o ro, rs.length = n → (∀ y ∈ rs, y.ok ∧ (∀ p ∈ y.ents, @Ne Nat p.1 d) ∧ ∀ p ∈ y.ents, @Ne Nat p.1 r) → DeckO o → RowsO w n ro → Fin (rs.map fun y => .ref y.D) ((d, o) :: (r, ro) :: (bufs ++ more) ++ rs.flatMap NRow.ents)) :
    LCg.CompRest Challenge.rw_np0089_01.row.prog w A g L m env elt x scope cl s (fun _ => True) P Fin n 0 [] ((d, o) :: (r, ro) :: (bufs ++ more)) := by
  have key : ∀ (j i : Nat) (rs : List NRow) (o ro : Obj), i + j = n → rs.length = i → (∀ y ∈ rs, y.ok ∧ (∀ p ∈ y.ents, @Ne Nat p.1 d) ∧ ∀ p ∈ y.ents, @Ne Nat p.1 r) → DeckO o → RowsO w i ro →
      LCg.CompRest Challenge.rw_np0089_01.row.prog w A g L m env elt x scope cl s (fun _ => True) P Fin j i (rs.map fun y => .ref y.D) ((d, o) :: (r, ro) :: (bufs ++ more) ++ rs.flatMap NRow.ents) := by
    intro j
    induction j with
    | zero =>
      intro i rs o ro e1 e2 hrs hK hR
      have : i = n := by lia
      subst this
      exact LCg.CompRest.zero (fin rs o ro e2 hrs hK hR)
    | succ j ih =>
      intro i rs o ro e1 e2 hrs hK hR
      refine LCg.CompRest.succ fun v I oI C oC D m₂ h tk E' hv hC hx F N off ne => ?_
      have off' := off.mem
      have N0 : News g L h ((I, oI) :: (C, oC) :: (D, LCg.lst (rs.map fun y => Value.ref y.D)) :: (d, o) :: (r, ro) :: (bufs ++ more)) := fun p hp => N p (List.mem_append_left (rs.flatMap NRow.ents) hp)
      refine wpAny_mono (K i o ro v I oI C oC D m₂ h tk _ (by lia) hC hx hK hR F N0) (fun y s₂ h₂ => ?_) fun _ _ f => f.elim
      obtain ⟨h', tk', news', rfl, st, ns, x, o', ro', rfl, ok, rfl, hK', hR', n1, n2⟩ := h₂
      have keep := num_keep (fun p hp => (N0 p (.tail _ (.tail _ (.tail _ (.tail _ (.tail _ (List.mem_append_left more hp))))))).1) st (fun p hp => (ns p (.tail _ (.tail _ (.tail _ (.tail _ (.tail _ hp)))))).1)
      have hsub : ∀ p ∈ (d, o) :: (r, ro) :: bufs, p ∈ (d, o) :: (r, ro) :: (bufs ++ more) ++ rs.flatMap NRow.ents := fun p hp => List.mem_append_left (rs.flatMap NRow.ents) (List.mem_append_left more hp)
      have nin : ∀ a, (∀ p ∈ (d, o) :: (r, ro) :: bufs, p.1 ≠ a) → a ∉ adr ((d, o) :: (r, ro) :: bufs) := fun a ha hm => by
        obtain ⟨p, hp, e⟩ := List.mem_map.mp hm
        exact ha p hp e
      have hL : L ∉ adr ((d, o) :: (r, ro) :: bufs) := nin L fun p hp => (N p (by
        have := hsub p hp
        exact List.mem_cons_of_mem _ (List.mem_cons_of_mem _ (List.mem_cons_of_mem _ this)))).2.1
      have hg : ∀ b o', g.get? b = some o' → b ∉ adr ((d, o) :: (r, ro) :: bufs) := fun b o' q => nin b fun p hp e => by
        have := (N p (List.mem_cons_of_mem _ (List.mem_cons_of_mem _ (List.mem_cons_of_mem _ (hsub p hp))))).2.2
        rw [show p.1 = b from e, q] at this; cases this
      have gD : g.StaysIn (hideAll h (adr ((d, o) :: (r, ro) :: bufs))) := fun b o' q => hideAll_get _ (F.keep b o' q) (hg b o' q)
      obtain ⟨oL, es, ep, eL, _⟩ := id F.ns
      have iI : I ∉ adr ((d, o) :: (r, ro) :: bufs) := nin I fun p hp => (off' p (hsub p hp)).1
      have iC : C ∉ adr ((d, o) :: (r, ro) :: bufs) := nin C fun p hp => (off' p (hsub p hp)).2.1
      have iD : D ∉ adr ((d, o) :: (r, ro) :: bufs) := nin D fun p hp => (off' p (hsub p hp)).2.2
      have NI := N0 (I, oI) (.head _)
      have NC := N0 (C, oC) (.tail _ (.head _))
      have ND := N0 (D, LCg.lst (rs.map fun y => Value.ref y.D)) (.tail _ (.tail _ (.head _)))
      have fresh : ∀ p, (hideAll h (adr ((d, o) :: (r, ro) :: bufs))).get? p = none → (p ≠ L ∧ g.get? p = none) ∧ p ≠ I ∧ p ≠ C ∧ p ≠ D := fun p hp => by
        refine ⟨⟨fun e => ?_, ?_⟩, fun e => ?_, fun e => ?_, fun e => ?_⟩
        · rw [e, hideAll_get _ eL hL] at hp; cases hp
        · cases q : g.get? p with
          | none => rfl
          | some o => rw [gD _ _ q] at hp; cases hp
        · rw [e, hideAll_get _ NI.1 iI] at hp; cases hp
        · rw [e, hideAll_get _ NC.1 iC] at hp; cases hp
        · rw [e, hideAll_get _ ND.1 iD] at hp; cases hp
      have hrow : ∀ p ∈ x.ents, h'.get? p.1 = some p.2 ∧ (p.1 ≠ L ∧ g.get? p.1 = none) ∧ p.1 ≠ I ∧ p.1 ≠ C ∧ p.1 ≠ D := fun p hp => by
        have z := ns p (List.mem_append_left ((d, o') :: (r, ro') :: bufs) hp)
        exact ⟨z.1, fresh _ z.2⟩
      have hrw : ∀ p ∈ rs.flatMap NRow.ents, @Ne Nat p.1 d ∧ @Ne Nat p.1 r := fun p hp => by
        obtain ⟨y, hy, hp⟩ := List.mem_flatMap.mp hp
        exact ⟨(hrs y hy).2.1 p hp, (hrs y hy).2.2 p hp⟩
      have mem9 : ∀ p ∈ (d, o') :: (r, ro') :: (bufs ++ more) ++ (rs ++ [x]).flatMap NRow.ents, (h'.get? p.1 = some p.2 ∧ p.1 ≠ L ∧ g.get? p.1 = none) ∧ p.1 ≠ I ∧ p.1 ≠ C ∧ p.1 ≠ D := fun p hp => by
        rw [List.flatMap_append, List.flatMap_singleton] at hp
        have hdI := off' (d, o) (List.mem_append_left _ (.head _))
        have hrI := off' (r, ro) (List.mem_append_left _ (.tail _ (.head _)))
        have Nd := N0 (d, o) (.tail _ (.tail _ (.tail _ (.head _))))
        have Nr := N0 (r, ro) (.tail _ (.tail _ (.tail _ (.tail _ (.head _)))))
        simp only [List.mem_cons, List.mem_append] at hp
        rcases hp with (rfl | rfl | hp) | hp | hp
        · exact ⟨⟨(ns (d, o') (by simp)).1, Nd.2⟩, hdI⟩
        · exact ⟨⟨(ns (r, ro') (by simp)).1, Nr.2⟩, hrI⟩
        · have hm : p ∈ bufs ++ more := List.mem_append.mpr hp
          have z := N p (.tail _ (.tail _ (.tail _ (List.mem_append_left _ (.tail _ (.tail _ hm))))))
          have zo := off' p (List.mem_append_left _ (.tail _ (.tail _ hm)))
          exact ⟨⟨keep _ _ (h1 p hm).1 (h1 p hm).2 z.1, z.2⟩, zo⟩
        · have z := N p (.tail _ (.tail _ (.tail _ (List.mem_append_right _ hp))))
          have zo := off' p (List.mem_append_right _ hp)
          exact ⟨⟨keep _ _ (hrw p hp).1 (hrw p hp).2 z.1, z.2⟩, zo⟩
        · have z := hrow p hp
          exact ⟨⟨z.1, z.2.1⟩, z.2.2⟩
      refine ⟨h', tk', (d, o') :: (r, ro') :: (bufs ++ more) ++ (rs ++ [x]).flatMap NRow.ents, rfl, ⟨F.ns.at' fun o e => st L o (hideAll_get _ e hL), fun b o q => st b o (gD b o q), F.above⟩, fun p hp => ?_, LCg.Off3.of fun p hp => (mem9 p hp).2, trivial, ?_⟩
      · rcases List.mem_cons.mp hp with rfl | hp
        · exact ⟨st _ _ (hideAll_get _ NI.1 iI), NI.2⟩
        rcases List.mem_cons.mp hp with rfl | hp
        · exact ⟨st _ _ (hideAll_get _ NC.1 iC), NC.2⟩
        rcases List.mem_cons.mp hp with rfl | hp
        · exact ⟨st _ _ (hideAll_get _ ND.1 iD), ND.2⟩
        exact (mem9 p hp).1
      · have := ih (i + 1) (rs ++ [x]) o' ro' (by lia) (by simp [e2]) (fun y hy => by
          rcases List.mem_append.mp hy with hy | hy
          · exact hrs y hy
          · rw [List.mem_singleton.mp hy]; exact ⟨ok, n1, n2⟩) hK' hR'
        simpa using this
  have := key n 0 [] o ro (by lia) rfl (fun y hy => nomatch hy) hK hR
  simpa using this
end Mine.Internal
namespace Mine.Internal
theorem bt_not (n : Int) (j : Nat) : bt (-1 - n) j = 1 - bt n j := by
  induction j generalizing n with
  | zero => rw [bt_zero, bt_zero]; lia
  | succ j ih => rw [bt_succ, bt_succ, show (-1 - n) / 2 = -1 - n / 2 by lia, ih]
theorem sum_cons {α : Type} (f : α → Int) (a : α) (l : List α) : ((a :: l).map f).sum = f a + (l.map f).sum := by simp
theorem sum_range_succ (f : Nat → Int) (k : Nat) : ((List.range (k + 1)).map f).sum = f 0 + ((List.range k).map fun j => f (j + 1)).sum := by
  rw [List.range_succ_eq_map, List.map_cons, List.map_map, List.sum_cons]; rfl
theorem popF_bt : ∀ (k m : Nat), ((popF k m : Nat) : Int) = ((List.range k).map fun j => bt (m : Int) j).sum
  | 0, m => by simp [popF]
  | k + 1, m => by
    rw [sum_range_succ, bt_zero]
    have e : (fun j => bt (m : Int) (j + 1)) = fun j => bt ((m / 2 : Nat) : Int) j := by funext j; rw [bt_succ]; congr 1
    rw [e, ← popF_bt k (m / 2)]
    show ((m % 2 + popF k (m / 2) : Nat) : Int) = _
    lia
theorem bt_big {n : Int} {k : Nat} (h : InR k n) : bt n k = if 0 ≤ n then 0 else 1 := by
  have h1 := inR_top k n h
  have h2 := (inR_iff k n).1 h
  have hp : (0 : Int) < 2 ^ k := Int.pow_pos (by decide)
  have h3 := Int.emod_add_mul_ediv n (2 ^ k)
  have h4 := Int.emod_nonneg n (Int.ne_of_gt hp)
  have h5 := Int.emod_lt_of_pos n hp
  unfold bt
  rcases h1 with h1 | h1 <;> rw [h1] at h3 ⊢ <;> split <;> lia
theorem pop_law {n : Int} (h : InR 89 n) : ((popN (if 0 ≤ n then n else -1 - n).toNat : Nat) : Int) = ((((List.range 90).map fun (i : Nat) => Int.fmod (Int.fdiv n (2 ^ (i : Int).toNat)) 2)).map fun b => if (b != ((((List.range 90).map fun (i : Nat) => Int.fmod (Int.fdiv n (2 ^ (i : Int).toNat)) 2)).getD (Int.toNat 89) 0)) = true then 1 else 0).sum := by
  simp only [bt_def]
  have e89 : (((List.range 90).map fun (i : Nat) => bt n i).getD (Int.toNat 89) 0) = bt n 89 := by
    rw [List.getD_eq_getElem?_getD, List.getElem?_map]
    rfl
  rw [e89, List.map_map, bt_big h]
  have hr := (inR_iff 89 n).1 h
  have hp : (2 : Int) ^ 89 = ((2 ^ 89 : Nat) : Int) := by norm_cast
  have hlt : (if 0 ≤ n then n else -1 - n).toNat < 2 ^ 90 := by
    have : (2 : Nat) ^ 90 = 2 * 2 ^ 89 := by decide
    rw [hp] at hr
    split <;> lia
  rw [popN_of hlt, popF_bt]
  congr 1
  apply List.map_congr_left
  intro j _
  show _ = if (bt n j != if 0 ≤ n then 0 else 1) = true then (1 : Int) else 0
  have h01 := bt_01 n j
  by_cases h0 : 0 ≤ n
  · simp only [if_pos h0, Int.toNat_of_nonneg h0]
    rcases h01 with q | q <;> rw [q] <;> rfl
  · simp only [if_neg h0]
    rw [Int.toNat_of_nonneg (by lia), bt_not]
    rcases h01 with q | q <;> rw [q] <;> rfl
end Mine.Internal
namespace Mine.Internal
inductive NoteAt (pos : Pos) : Prop
  | mk
theorem note_at {M : Model} {A : Around} {E : Value → Shared → Prop} {s : Shared} {c : Const} {k : Nat} {pos : Pos} {env : Env} {Q : Value → Shared → Prop} (_ : NoteAt pos) (h : wpAny M A (eval (.Constant c k pos) env) Q E s) : wpAny M A (eval (.Constant c k pos) env) Q E s := h
theorem range_all : ∀ k : Fin 12, Builtin.Range.small 0 ((k.val : Int) - 2) 1 = true ∧ Builtin.Range.rangeSize 0 ((k.val : Int) - 2) 1 = ((((k.val : Int) - 2).toNat : Nat) : Int) := by decide
theorem range_facts {e : Int} (h1 : -2 ≤ e) (h2 : e ≤ 9) : Builtin.Range.small 0 e 1 = true ∧ Builtin.Range.rangeSize 0 e 1 = ((e.toNat : Nat) : Int) := by
  have h := range_all ⟨(e + 2).toNat, by lia⟩
  rw [show (((⟨(e + 2).toNat, by lia⟩ : Fin 12).val : Nat) : Int) - 2 = e by show (((e + 2).toNat : Nat) : Int) - 2 = e; lia] at h
  exact h
theorem pow_oks {n : Int} (h : Builtin.Int.intBits n ≤ 70) {i : Nat} (hi : i ≤ 9) : IntMulOk (powR n i) n := by
  rw [powR_eq]
  have h5 := intBits_pow_le h i
  have h6 : 70 * i ≤ 70 * 9 := Nat.mul_le_mul_left 70 hi
  exact mul_ok (by lia)
theorem alone_eq (n : Int) : [n + 1, n - 1, if n < 0 then -n else n, -1 - n] = [n + 1, n - 1, if 0 < n then n else 0 - n, 0 - n - 1] := by
  have h1 : (if n < 0 then -n else n) = (if 0 < n then n else 0 - n) := by split <;> split <;> omega
  rw [h1, show -1 - n = 0 - n - 1 by omega]
namespace alone_all_e
noncomputable def zzQ (w : World) (B : Heap) (n : Int) (c : Int) (e : Int) (t : Tok) (u : Tok) (v : Tok) : Prop := ∀ S : Std w B, ∀ C : CodeHd B 763 761, ∀ hBt : B.get? 761 = none, ∀ hc1 : -70 ≤ c, ∀ hc2 : c ≤ 70, ∀ hpop : ((popN (if 0 ≤ n then n else -1 - n).toNat : Nat) : Int) = ((((List.range 90).map fun (i : Nat) => Int.fmod (Int.fdiv n (2 ^ (i : Int).toNat)) 2)).map fun b => if (b != ((((List.range 90).map fun (i : Nat) => Int.fmod (Int.fdiv n (2 ^ (i : Int).toNat)) 2)).getD (Int.toNat 89) 0)) = true then 1 else 0).sum, ∀ hn70 : Builtin.Int.intBits n ≤ 70, ∀ he2 : -2 ≤ e, ∀ he9 : e ≤ 9, CallsT w 350 (.ref 764) [.int n t, .int c u, .int e v] B 761 (fun v _ => v = .bool true)
noncomputable abbrev zzT : Type := World × Heap × Int × Int × Int × Tok × Tok × Tok
noncomputable def zzS (z : zzT) : Prop := zzQ z.1 z.2.1 z.2.2.1 z.2.2.2.1 z.2.2.2.2.1 z.2.2.2.2.2.1 z.2.2.2.2.2.2.1 z.2.2.2.2.2.2.2
noncomputable def zzc : zzT := @Classical.epsilon zzT ⟨(zw, cN, cN, cN, cN, cN, cN, cN)⟩ fun z => ¬ zzS z
@[irreducible] def w : World := zzc.1
@[irreducible] def B : Heap := zzc.2.1
@[irreducible] def n : Int := zzc.2.2.1
@[irreducible] def c : Int := zzc.2.2.2.1
@[irreducible] def e : Int := zzc.2.2.2.2.1
@[irreducible] def t : Tok := zzc.2.2.2.2.2.1
@[irreducible] def u : Tok := zzc.2.2.2.2.2.2.1
@[irreducible] def v : Tok := zzc.2.2.2.2.2.2.2
theorem zzcore : zzQ w B n c e t u v := by
 k_with "e_q" =>
  intro S C hBt hc1 hc2 hpop hn70 he2 he9
  have zOn : ZOn := .mk
  have hn : Builtin.Int.intBits n ≤ 900 := by lia
  have hf1 : (Builtin.Int.intBits (n + 1) : Int) ≤ 65536 := by
    have := intBits_add_le hn (show Builtin.Int.intBits 1 ≤ 1 by decide); lia
  have hf2 : (Builtin.Int.intBits (n - 1) : Int) ≤ 65536 := by
    have := intBits_sub_le hn (show Builtin.Int.intBits 1 ≤ 1 by decide); lia
  have hn1 : Builtin.Int.intBits n ≤ 1000 := by lia
  have hp : ∀ k : Nat, k ≤ 70 → Builtin.Int.intBits ((2 : Int) ^ k) ≤ 71 := fun k hk => by have := (bits_two k).1; lia
  have hm1 : IntMulOk n (2 ^ c.toNat) := mul_ok (by have := hp c.toNat (by lia); lia)
  have hj1 : JoinAt ⟨458, 41, 458, 77⟩ (if 0 < n then n else 0 - n) := .mk
  have hj2 : JoinAt ⟨460, 10, 460, 75⟩ (if 0 ≤ c then n * 2 ^ c.toNat else n.fdiv (2 ^ (0 - c).toNat)) := .mk
  have hn1 : NoteAt ⟨466, 10, 466, 29⟩ := .mk
  have hn2 : NoteAt ⟨466, 51, 466, 52⟩ := .mk
  k_with "m_told" => (k_extra "FN"; first
    | (((refine told_okN (by assumption) (by exact lF') (by exact lN') (by k_mem) (by k_mem) (by assumption) (by assumption) (fun h' st S' ho hcd => lam_power_all S' ho hcd (by exact st _ _ (News.get lN' (by k_mem))) (by assumption) (by exact st _ _ (News.get lN' (by k_mem))) (by assumption) (by with_reducible assumption) (by assumption) (by assumption)) ?_; k_extra "e_41")); ((have zq9 := zp'; replace zq9 := epsX zq9; generalize zXc _ _ = zt9 at zq9; have zp' := zq9; clear zq9); subst zp'))
    | ((have zG9 := (by assumption : Gr _ _ _ _)); ((refine told_raiseN S zG9 (by exact lF') (by exact lN') (by rfl) (by decide) (by k_mem) (by k_mem) (by assumption) (by assumption) (fun h' hN' S' hB ho hcd => lam_power_neg S' ho hcd (by exact hN' (_, _) (by k_mem)) (by assumption) (by exact hN' (_, _) (by k_mem)) (by assumption) (by assumption)) ?_; (first | (k_extra "m_on"; refine epsT5 ?_; generalize pj1 _ = zg'; generalize pj2 _ = ztk9; generalize pj3 _ = zv; generalize pj4 _ = zh'; generalize pl5 _ = ztk'; intro ze zG' zS' zF' zN') | intro zg' ztk9 zv zh' ztk' ze zG' zS' zF' zN'))); (subst ze); (have zC9 := CodeHd.keeps C (Gr.base zG')); (have zX := Std.X zS'); (have zT := Std.top zS')))
  k_with "m_eq" => first | exact alone_eq _ | (simp only [List.cons.injEq, and_true, true_and]; first | lia | (constructor <;> lia) | (constructor <;> (split <;> split <;> lia)))
  k_with "m_elt" => ((have zq9 := ints_at (by assumption : IntsAre _ (List.map _ (List.range 90))) zP; replace zq9 := epsX zq9; generalize zXc _ _ = zb9 at zq9; replace zq9 := epsX zq9; generalize zXc _ _ = zt9 at zq9; obtain ⟨zv9, zq9⟩ := zq9; have zn9 := zq9; clear zq9); subst zv9)
  k_with "m_size" => (have zq := ints_len (by assumption : IntsAre _ (List.map _ (List.range 90))); simp at zq; lia)
  k_with "m_eclose" => exact GDiff.of
  k_with "m_made" => (have zI9 := made_diff (by assumption : IntsAre _ (List.map _ (List.range 90))) zpr)
  have hG : CompI (Str.ofString "own") (GDiff ((((List.range 90).map fun (i : Nat) => Int.fmod (Int.fdiv n (2 ^ (i : Int).toNat)) 2)).getD 89 0)) := .mk
  have hO : OwnLoop := .mk
  k_with "m_note" => first
    | ((have he1 : e < 0 := (by lia)); clear hn1 hn2; (obtain ⟨hsm, hsz⟩ := range_facts he2 he9); (rw [(by lia : e.toNat = 0)] at hsz); (have hR : RangeNone := .mk))
    | ((have he1 : 0 ≤ e := (by lia)); clear hn1 hn2; (obtain ⟨hsm, hsz⟩ := range_facts he2 he9); (have hL : FoldN (Str.ofString "due") (powR n) := .mk))
  k_with "m_lap" => (have zml := pow_oks (i := zi) hn70 (by lia))
  k_with "m_close" => first | exact absurd hpop (by assumption) | exact congrArg Value.bool (beq_self_eq_true _)
  walk_at "m_tenter"
  k_steps
  all_goals first | walk_at "m_tend" | ((try dsimp only); wrow_close) | skip
 k_extra "e_Q"
end alone_all_e
theorem alone_all {w : World} {B : Heap} (S : Std w B) (C : CodeHd B 763 761) (hBt : B.get? 761 = none) {n c e : Int} {t u v : Tok} (hc1 : -70 ≤ c) (hc2 : c ≤ 70)
    (hpop : ((popN (if 0 ≤ n then n else -1 - n).toNat : Nat) : Int) = ((((List.range 90).map fun (i : Nat) => Int.fmod (Int.fdiv n (2 ^ (i : Int).toNat)) 2)).map fun b => if (b != ((((List.range 90).map fun (i : Nat) => Int.fmod (Int.fdiv n (2 ^ (i : Int).toNat)) 2)).getD (Int.toNat 89) 0)) = true then 1 else 0).sum)
    (hn70 : Builtin.Int.intBits n ≤ 70) (he2 : -2 ≤ e) (he9 : e ≤ 9) : CallsT w 350 (.ref 764) [.int n t, .int c u, .int e v] B 761 (fun v _ => v = .bool true) := epsU (P := alone_all_e.zzS) (by with_unfolding_all exact alone_all_e.zzcore) (w, B, n, c, e, t, u, v) S C hBt hc1 hc2 hpop hn70 he2 he9
end Mine.Internal
namespace Mine.Internal
theorem cut_pos {n m : Int} (hm : 0 < m) : (n - m * cutV n m = 0 ∧ n - m * Int.fdiv n m = 0) ∨ (0 < n - m * cutV n m ∧ n - m * Int.fdiv n m = n - m * cutV n m) ∨ (n - m * cutV n m < 0 ∧ n - m * Int.fdiv n m = n - m * cutV n m + m) := by
  rw [Int.fdiv_eq_ediv_of_nonneg n (Int.le_of_lt hm)]
  by_cases hn : n < 0
  · have e : cutV n m = 0 - (-n) / m := by
      unfold cutV
      rw [if_pos hn, if_neg (by lia : ¬ m < 0), Int.fdiv_eq_ediv_of_nonneg _ (Int.le_of_lt hm), if_neg (by simp [hn]; lia)]
    have h1 := Int.emod_add_mul_ediv (-n) m
    have h2 := Int.emod_nonneg (-n) (Int.ne_of_gt hm)
    have h3 := Int.emod_lt_of_pos (-n) hm
    have h4 := Int.emod_add_mul_ediv n m
    have h5 := Int.emod_nonneg n (Int.ne_of_gt hm)
    have h6 := Int.emod_lt_of_pos n hm
    rw [e, Int.mul_sub, Int.mul_zero]
    by_cases hz : (-n) % m = 0
    · left
      have hd : n % m = 0 := Int.emod_eq_zero_of_dvd ((Int.dvd_neg).mp (Int.dvd_of_emod_eq_zero hz))
      lia
    · right; right
      have hq : n % m = m - (-n) % m := by
        have : n = (m - (-n) % m) + m * (-((-n) / m) - 1) := by
          rw [Int.mul_sub, Int.mul_neg, Int.mul_one]; lia
        conv => lhs; rw [this, Int.add_mul_emod_self_left]
        exact Int.emod_eq_of_lt (by lia) (by lia)
      lia
  · have e : cutV n m = n / m := by
      unfold cutV
      rw [if_neg hn, if_neg (by lia : ¬ m < 0), Int.fdiv_eq_ediv_of_nonneg _ (Int.le_of_lt hm), if_pos (by simp [hn]; lia)]
    rw [e]
    have h4 := Int.emod_add_mul_ediv n m
    have h5 := Int.emod_nonneg n (Int.ne_of_gt hm)
    lia
theorem cut_neg (n m : Int) (hm : m ≠ 0) : cutV (-n) (-m) = cutV n m := by
  unfold cutV
  by_cases h0 : n = 0
  · subst h0; simp [Int.zero_fdiv]
  rcases Int.lt_or_gt_of_ne h0 with h1 | h1 <;> rcases Int.lt_or_gt_of_ne hm with h2 | h2
  · have a1 : ¬ 0 < n := by lia
    have a2 : ¬ 0 < m := by lia
    simp [h1, h2, a1, a2]
  · have a1 : ¬ 0 < n := by lia
    have a2 : ¬ m < 0 := by lia
    have a3 : 0 < m := h2
    simp [h1, a1, a2, a3]
  · have a1 : ¬ n < 0 := by lia
    have a2 : ¬ 0 < m := by lia
    have a3 : 0 < n := h1
    simp [h2, a1, a2, a3]
  · have a1 : ¬ n < 0 := by lia
    have a2 : ¬ m < 0 := by lia
    have a3 : 0 < n := h1
    have a4 : 0 < m := h2
    simp [a1, a2, a3, a4]
theorem cut_all {n m : Int} (hm : m ≠ 0) : (n - m * cutV n m = 0 ∧ n - m * Int.fdiv n m = 0) ∨ (n - m * cutV n m ≠ 0 ∧ (n - m * cutV n m < 0 ↔ m < 0) ∧ n - m * Int.fdiv n m = n - m * cutV n m) ∨ (n - m * cutV n m ≠ 0 ∧ ¬ (n - m * cutV n m < 0 ↔ m < 0) ∧ n - m * Int.fdiv n m = n - m * cutV n m + m) := by
  by_cases h : 0 < m
  · have h0 : ¬ m < 0 := Int.not_lt.mpr (Int.le_of_lt h)
    rcases cut_pos (n := n) h with ⟨a, b⟩ | ⟨a, b⟩ | ⟨a, b⟩
    · exact .inl ⟨a, b⟩
    · exact .inr (.inl ⟨Int.ne_of_gt a, ⟨fun q => absurd q (Int.not_lt.mpr (Int.le_of_lt a)), fun q => absurd q h0⟩, b⟩)
    · exact .inr (.inr ⟨Int.ne_of_lt a, fun q => h0 (q.mp a), b⟩)
  · have h1 : 0 < -m := by lia
    have h0 : m < 0 := by lia
    have := cut_pos (n := -n) h1
    rw [cut_neg n m hm, Int.neg_fdiv_neg, Int.neg_mul, Int.neg_mul] at this
    generalize m * cutV n m = x at *
    generalize m * Int.fdiv n m = y at *
    rcases this with ⟨a, b⟩ | ⟨a, b⟩ | ⟨a, b⟩
    · exact .inl ⟨by lia, by lia⟩
    · have c : n - x < 0 := by lia
      exact .inr (.inl ⟨Int.ne_of_lt c, ⟨fun _ => h0, fun _ => c⟩, by lia⟩)
    · have c : 0 < n - x := by lia
      exact .inr (.inr ⟨Int.ne_of_gt c, fun q => absurd (q.mpr h0) (Int.not_lt.mpr (Int.le_of_lt c)), by lia⟩)
end Mine.Internal
namespace Mine.Internal
theorem pair_join {n m : Int} (hm : m ≠ 0) : ((n - m * cutV n m ≠ 0 → (decide (n - m * cutV n m < 0) != decide (m < 0)) = true → n - m * cutV n m + m = n - m * Int.fdiv n m)) ∧ (n - m * cutV n m = 0 → n - m * cutV n m = n - m * Int.fdiv n m) ∧ ((decide (n - m * cutV n m < 0) != decide (m < 0)) = false → n - m * cutV n m = n - m * Int.fdiv n m) := by
  have h := cut_all (n := n) hm
  simp only [bne_iff_ne, ne_eq, decide_eq_decide, bne_eq_false_iff_eq]
  refine ⟨fun a b => ?_, fun a => ?_, fun a => ?_⟩ <;> omega
namespace pair_calls_e
noncomputable def zzQ (w : World) (B : Heap) (v : Value) (v' : Value) (n : Int) (m : Int) (t : Tok) (u : Tok) : Prop := ∀ S : Std w B, ∀ C : CodeHd B 758 754, ∀ hBt : B.get? 754 = none, ∀ V : NumAt B v n, ∀ V' : NumAt B v' m, ∀ hm : m ≠ 0, ∀ hn70 : Builtin.Int.intBits n ≤ 70, ∀ hm70 : Builtin.Int.intBits m ≤ 70, ∀ hmo1 : IntMulOk m (cutV n m), ∀ hmo2 : IntMulOk m (Int.fdiv n m), CallsT w 350 (.ref 759) [v, v', .int n t, .int m u] B 754 (fun v _ => v = .bool true)
noncomputable abbrev zzT : Type := World × Heap × Value × Value × Int × Int × Tok × Tok
noncomputable def zzS (z : zzT) : Prop := zzQ z.1 z.2.1 z.2.2.1 z.2.2.2.1 z.2.2.2.2.1 z.2.2.2.2.2.1 z.2.2.2.2.2.2.1 z.2.2.2.2.2.2.2
noncomputable def zzc : zzT := @Classical.epsilon zzT ⟨(zw, cN, cN, cN, cN, cN, cN, cN)⟩ fun z => ¬ zzS z
@[irreducible] def w : World := zzc.1
@[irreducible] def B : Heap := zzc.2.1
@[irreducible] def v : Value := zzc.2.2.1
@[irreducible] def v' : Value := zzc.2.2.2.1
@[irreducible] def n : Int := zzc.2.2.2.2.1
@[irreducible] def m : Int := zzc.2.2.2.2.2.1
@[irreducible] def t : Tok := zzc.2.2.2.2.2.2.1
@[irreducible] def u : Tok := zzc.2.2.2.2.2.2.2
theorem zzcore : zzQ w B v v' n m t u := by
 k_with "e_q" =>
  intro S C hBt V V' hm hn70 hm70 hmo1 hmo2
  have zOn : ZOn := .mk
  have hlg := bits_log hm70
  have hj1 : JoinAt ⟨454, 17, 454, 82⟩ (n - m * Int.fdiv n m) := .mk
  k_with "m_told" => (k_extra "FN"; (have zG9 := (by assumption : Gr _ _ _ _)); (have zV1 := NumAt.keeps V (Gr.base zG9)); (have zV2 := NumAt.keeps V' (Gr.base zG9)); (first
    | ((refine told_okN (by assumption) (by exact lF') (by exact lN') (by k_mem) (by k_mem) (by assumption) (by assumption) (fun h' st S' ho hcd => lam_rem S' ho hcd (by exact st _ _ (News.get lN' (by k_mem))) (by assumption) (by exact st _ _ (News.get lN' (by k_mem))) (by assumption) (by exact (NumAt.keeps zV1 lF'.keep).keeps st) (by exact (NumAt.keeps zV2 lF'.keep).keeps st) (by assumption) (by assumption) (by assumption)) ?_; k_extra "e_41"))
    | ((refine told_okN (by assumption) (by exact lF') (by exact lN') (by k_mem) (by k_mem) (by assumption) (by assumption) (fun h' st S' ho hcd => lam_mod S' ho hcd (by exact st _ _ (News.get lN' (by k_mem))) (by assumption) (by exact st _ _ (News.get lN' (by k_mem))) (by assumption) (by exact (NumAt.keeps zV1 lF'.keep).keeps st) (by exact (NumAt.keeps zV2 lF'.keep).keeps st) (by assumption) (by assumption) (by assumption)) ?_; k_extra "e_41"))); ((have zq9 := zp'; replace zq9 := epsX zq9; generalize zXc _ _ = zt9 at zq9; have zp' := zq9; clear zq9); subst zp'))
  k_with "m_join" => first | exact (pair_join hm).1 (by assumption) (by assumption) | exact (pair_join hm).2.1 (by assumption) | exact (pair_join hm).2.2 (by assumption)
  k_with "m_eq" => (simp only [List.cons.injEq, and_true, true_and])
  k_with "m_close" => exact congrArg Value.bool (beq_self_eq_true _)
  walk_at "m_tenter"
  k_steps
  all_goals first | walk_at "m_tend" | ((try dsimp only); wrow_close) | skip
 k_extra "e_Q"
end pair_calls_e
theorem pair_calls {w : World} {B : Heap} (S : Std w B) (C : CodeHd B 758 754) (hBt : B.get? 754 = none) {v v' : Value} {n m : Int} {t u : Tok} (V : NumAt B v n) (V' : NumAt B v' m) (hm : m ≠ 0) (hn70 : Builtin.Int.intBits n ≤ 70) (hm70 : Builtin.Int.intBits m ≤ 70) (hmo1 : IntMulOk m (cutV n m)) (hmo2 : IntMulOk m (Int.fdiv n m)) : CallsT w 350 (.ref 759) [v, v', .int n t, .int m u] B 754 (fun v _ => v = .bool true) := epsU (P := pair_calls_e.zzS) (by with_unfolding_all exact pair_calls_e.zzcore) (w, B, v, v', n, m, t, u) S C hBt V V' hm hn70 hm70 hmo1 hmo2
namespace pair_zero_e
noncomputable def zzQ (w : World) (B : Heap) (v : Value) (v' : Value) (n : Int) (t : Tok) (u : Tok) : Prop := ∀ S : Std w B, ∀ C : CodeHd B 758 754, ∀ hBt : B.get? 754 = none, ∀ V : NumAt B v n, ∀ V' : NumAt B v' 0, CallsT w 350 (.ref 759) [v, v', .int n t, .int 0 u] B 754 (fun v _ => v = .bool true)
noncomputable abbrev zzT : Type := World × Heap × Value × Value × Int × Tok × Tok
noncomputable def zzS (z : zzT) : Prop := zzQ z.1 z.2.1 z.2.2.1 z.2.2.2.1 z.2.2.2.2.1 z.2.2.2.2.2.1 z.2.2.2.2.2.2
noncomputable def zzc : zzT := @Classical.epsilon zzT ⟨(zw, cN, cN, cN, cN, cN, cN)⟩ fun z => ¬ zzS z
@[irreducible] def w : World := zzc.1
@[irreducible] def B : Heap := zzc.2.1
@[irreducible] def v : Value := zzc.2.2.1
@[irreducible] def v' : Value := zzc.2.2.2.1
@[irreducible] def n : Int := zzc.2.2.2.2.1
@[irreducible] def t : Tok := zzc.2.2.2.2.2.1
@[irreducible] def u : Tok := zzc.2.2.2.2.2.2
theorem zzcore : zzQ w B v v' n t u := by
 k_with "e_q" =>
  intro S C hBt V V'
  have zOn : ZOn := .mk
  k_with "m_join" => skip
  k_with "m_eq" => skip
  k_with "m_close" => skip
  k_with "compareOp Eq ref ref" => (k_here; (with_reducible show wpAny _ _ (compareOp CmpOp.Eq (Value.ref _) (Value.ref _)) _ _ _); k_dflt ((refine eq_dataH (by ke_read) (by ke_read) (by ke_shaped) (by ke_shaped) (by ke_room) ?_); ke_norm; (fail_if_success (goal_has PySem.PyData.eqvAll)); ke_norm))
  k_with "m_told" => (k_extra "FN"; (have zG9 := (by assumption : Gr _ _ _ _)); (first
    | ((refine told_raiseN S zG9 (by exact lF') (by exact lN') (by rfl) (by decide) (by k_mem) (by k_mem) (by assumption) (by assumption) (fun h' hN' S' hB ho hcd => lam_rem0 S' ho hcd (by exact hN' (_, _) (by k_mem)) (by assumption) (by exact hN' (_, _) (by k_mem)) (by assumption) (NumAt.keeps V hB) (NumAt.keeps V' hB)) ?_; (first | (k_extra "m_on"; refine epsT5 ?_; generalize pj1 _ = zg'; generalize pj2 _ = ztk9; generalize pj3 _ = zv; generalize pj4 _ = zh'; generalize pl5 _ = ztk'; intro ze zG' zS' zF' zN') | intro zg' ztk9 zv zh' ztk' ze zG' zS' zF' zN')))
    | ((refine told_raiseN S zG9 (by exact lF') (by exact lN') (by rfl) (by decide) (by k_mem) (by k_mem) (by assumption) (by assumption) (fun h' hN' S' hB ho hcd => lam_mod0 S' ho hcd (by exact hN' (_, _) (by k_mem)) (by assumption) (by exact hN' (_, _) (by k_mem)) (by assumption) (NumAt.keeps V hB) (NumAt.keeps V' hB)) ?_; (first | (k_extra "m_on"; refine epsT5 ?_; generalize pj1 _ = zg'; generalize pj2 _ = ztk9; generalize pj3 _ = zv; generalize pj4 _ = zh'; generalize pl5 _ = ztk'; intro ze zG' zS' zF' zN') | intro zg' ztk9 zv zh' ztk' ze zG' zS' zF' zN')))); (subst ze); (have zV1 := NumAt.keeps V (Gr.base zG')); (have zV2 := NumAt.keeps V' (Gr.base zG')); (have zC9 := CodeHd.keeps C (Gr.base zG')); (have zX := Std.X zS'); (have zT := Std.top zS'))
  k_with "m_close" => exact congrArg Value.bool (beq_self_eq_true _)
  walk_at "m_tenter"
  k_steps
  all_goals first | walk_at "m_tend" | ((try dsimp only); wrow_close) | skip
 k_extra "e_Q"
end pair_zero_e
theorem pair_zero {w : World} {B : Heap} (S : Std w B) (C : CodeHd B 758 754) (hBt : B.get? 754 = none) {v v' : Value} {n : Int} {t u : Tok} (V : NumAt B v n) (V' : NumAt B v' 0) : CallsT w 350 (.ref 759) [v, v', .int n t, .int 0 u] B 754 (fun v _ => v = .bool true) := epsU (P := pair_zero_e.zzS) (by with_unfolding_all exact pair_zero_e.zzcore) (w, B, v, v', n, t, u) S C hBt V V'
end Mine.Internal
namespace Mine.Internal
section
variable {w : World} {B h g h' : Heap} {l : List Env} {name : Str} {scope : Scope} {L a : Addr} {cd : Value} {cl : List (Str × Addr)} {s : Shared} {m : Str → Option Value} {all : List (Addr × Obj)}
end
theorem OwnIs.atN {own : Value} {a e : Addr} {ao eo : Obj} {n : Int} {D : Heap} (x : OwnIs own a ao e eo n) (h1 : ao ≠ tabObj #[] → D.get? a = some ao) (h2 : eo ≠ tabObj #[] → D.get? e = some eo) : NumAt D own n := by
  cases x with
  | int n t => exact .int n t
  | mark g1 g2 => exact .mark (h1 fun e => by simp [instObj] at e) (h2 fun e => by simp [dictOf] at e) g1 g2
theorem cons_of {α : Type} {X : List α} {n : Nat} (h : X.length = n + 1) : ∃ p Y, X = p :: Y ∧ Y.length = n := by
  cases X with
  | nil => cases h
  | cons p Y => exact ⟨p, Y, rfl, Nat.succ.inj h⟩
namespace pad12_e
noncomputable def zzQ (E : List (Addr × Obj)) (q : Addr × Obj) : Prop := ∀ h : E.length ≤ 12, ∃ a0 o0 a1 o1 a2 o2 a3 o3 a4 o4 a5 o5 a6 o6 a7 o7 a8 o8 a9 o9 a10 o10 a11 o11, (∀ p ∈ E, p ∈ ([(a0, o0), (a1, o1), (a2, o2), (a3, o3), (a4, o4), (a5, o5), (a6, o6), (a7, o7), (a8, o8), (a9, o9), (a10, o10), (a11, o11)] : List (Addr × Obj))) ∧
    ∀ p ∈ ([(a0, o0), (a1, o1), (a2, o2), (a3, o3), (a4, o4), (a5, o5), (a6, o6), (a7, o7), (a8, o8), (a9, o9), (a10, o10), (a11, o11)] : List (Addr × Obj)), p ∈ E ∨ p = q
noncomputable abbrev zzT : Type := (List (Addr × Obj)) × (Addr × Obj)
noncomputable def zzS (z : zzT) : Prop := zzQ z.1 z.2
noncomputable def zzc : zzT := @Classical.epsilon zzT ⟨(cN, cN)⟩ fun z => ¬ zzS z
@[irreducible] def E : List (Addr × Obj) := zzc.1
@[irreducible] def q : Addr × Obj := zzc.2
theorem zzcore : zzQ E q := by
  intro h
  have hl : (E ++ List.replicate (12 - E.length) q).length = 12 := by simp; omega
  have m1 : ∀ p ∈ E, p ∈ E ++ List.replicate (12 - E.length) q := fun p hp => List.mem_append_left _ hp
  have m2 : ∀ p ∈ E ++ List.replicate (12 - E.length) q, p ∈ E ∨ p = q := fun p hp => by
    rcases List.mem_append.mp hp with hp | hp
    · exact .inl hp
    · exact .inr (List.eq_of_mem_replicate hp)
  generalize E ++ List.replicate (12 - E.length) q = X at hl m1 m2
  obtain ⟨⟨a0, o0⟩, X0, e0, h0⟩ := cons_of hl
  obtain ⟨⟨a1, o1⟩, X1, e1, h1⟩ := cons_of h0
  obtain ⟨⟨a2, o2⟩, X2, e2, h2⟩ := cons_of h1
  obtain ⟨⟨a3, o3⟩, X3, e3, h3⟩ := cons_of h2
  obtain ⟨⟨a4, o4⟩, X4, e4, h4⟩ := cons_of h3
  obtain ⟨⟨a5, o5⟩, X5, e5, h5⟩ := cons_of h4
  obtain ⟨⟨a6, o6⟩, X6, e6, h6⟩ := cons_of h5
  obtain ⟨⟨a7, o7⟩, X7, e7, h7⟩ := cons_of h6
  obtain ⟨⟨a8, o8⟩, X8, e8, h8⟩ := cons_of h7
  obtain ⟨⟨a9, o9⟩, X9, e9, h9⟩ := cons_of h8
  obtain ⟨⟨a10, o10⟩, X10, e10, h10⟩ := cons_of h9
  obtain ⟨⟨a11, o11⟩, X11, e11, h11⟩ := cons_of h10
  have e12 := List.eq_nil_of_length_eq_zero h11
  subst e12
  subst e11
  subst e10
  subst e9
  subst e8
  subst e7
  subst e6
  subst e5
  subst e4
  subst e3
  subst e2
  subst e1
  subst e0
  exact ⟨a0, o0, a1, o1, a2, o2, a3, o3, a4, o4, a5, o5, a6, o6, a7, o7, a8, o8, a9, o9, a10, o10, a11, o11, m1, m2⟩
end pad12_e
theorem pad12 (E : List (Addr × Obj)) (q : Addr × Obj) (h : E.length ≤ 12) : ∃ a0 o0 a1 o1 a2 o2 a3 o3 a4 o4 a5 o5 a6 o6 a7 o7 a8 o8 a9 o9 a10 o10 a11 o11, (∀ p ∈ E, p ∈ ([(a0, o0), (a1, o1), (a2, o2), (a3, o3), (a4, o4), (a5, o5), (a6, o6), (a7, o7), (a8, o8), (a9, o9), (a10, o10), (a11, o11)] : List (Addr × Obj))) ∧
    ∀ p ∈ ([(a0, o0), (a1, o1), (a2, o2), (a3, o3), (a4, o4), (a5, o5), (a6, o6), (a7, o7), (a8, o8), (a9, o9), (a10, o10), (a11, o11)] : List (Addr × Obj)), p ∈ E ∨ p = q := epsU (P := pad12_e.zzS) (by with_unfolding_all exact pad12_e.zzcore) (E, q) h
theorem cut_le (n m : Int) : (cutV n m).natAbs ≤ n.natAbs := by
  unfold cutV
  have h := Int.natAbs_fdiv_le_natAbs (if n < 0 then -n else n) (if m < 0 then -m else m)
  have e : (if n < 0 then -n else n).natAbs = n.natAbs := by split <;> omega
  rw [e] at h
  split
  · exact h
  · omega
theorem pair_all {w : World} {B : Heap} (S : Std w B) (C : CodeHd B 758 754) (hBt : B.get? 754 = none) {v v' : Value} {n m : Int} {t u : Tok} (V : NumAt B v n) (V' : NumAt B v' m) (hn70 : Builtin.Int.intBits n ≤ 70) (hm70 : Builtin.Int.intBits m ≤ 70) : CallsT w 350 (.ref 759) [v, v', .int n t, .int m u] B 754 (fun v _ => v = .bool true) := by
  by_cases hm : m = 0
  · subst hm
    exact pair_zero S C hBt V V'
  · have h1 : Builtin.Int.intBits (cutV n m) ≤ 70 := by
      rw [intBits_le_iff] at hn70 ⊢
      exact Nat.lt_of_le_of_lt (cut_le n m) hn70
    have h2 : Builtin.Int.intBits (Int.fdiv n m) ≤ 70 := by
      rw [intBits_le_iff] at hn70 ⊢
      exact Nat.lt_of_le_of_lt (Int.natAbs_fdiv_le_natAbs n m) hn70
    exact pair_calls S C hBt V V' hm hn70 hm70 (mul_ok (by omega)) (mul_ok (by omega))
theorem News.part {g h : Heap} {L : Addr} {all news : List (Addr × Obj)} (N : News g L h all) (sub : ∀ p ∈ news, p ∈ all) : News g L h news := fun p hp => N p (sub p hp)
theorem num_useK {w : World} {B h g : Heap} {l : List Env} {name : Str} {scope : Scope} {L a : Addr} {cd : Value} {cl : List (Str × Addr)} {s : Shared} {m : Str → Option Value} {all : List (Addr × Obj)} {n c : Nat} {f : Value} {args : List Value} {A : Around} {Q E : Value → Shared → Prop} {d r : Addr} {o ro : Obj} {bufs : List (Addr × Obj)} (keep : List (Addr × Obj)) (G : Gr B h g l) (F : Fr g L s.heap m) (N : News g L s.heap all) (hfr : A.frames = some (envX name scope L a cd cl :: l)) (hk : scope.kind ≠ .module)
    (sub : ∀ p ∈ (d, o) :: (r, ro) :: keep, p ∈ all) (hrd : @Ne Nat r d) (hkp : ∀ p ∈ keep, @Ne Nat p.1 d ∧ @Ne Nat p.1 r) (hbs : ∀ p ∈ bufs, p ∈ keep)
    (C : CallsG w n f args B ((d, o) :: (r, ro) :: bufs) (fun _ => True) (NumP w c d r bufs))
    (k : ∀ h' tk' (x : NRow) o' ro', x.ok → DeckO o' → RowsO w (c + 1) ro' → (∀ p ∈ x.ents, @Ne Nat p.1 d) → (∀ p ∈ x.ents, @Ne Nat p.1 r) → Fr g L h' m → News g L h' ((x.D, listOf #[x.own, .int x.n x.t] x.k) :: (x.a, x.ao) :: (x.e, x.eo) :: (d, o') :: (r, ro') :: keep) → Q (.ref x.D) { s with heap := h', toks := tk' })
    (hh : autoParam (A.handled = none) auR) (hd : autoParam (A.depth ≤ n) auL) (hu : autoParam (A.units ≤ 8 * n) auL) :
    wpAny (model Challenge.rw_np0089_01.row.prog w) A (call f args) Q E s :=
  num_use (up := fun o' => (d, o') :: (r, ro) :: keep) (up2 := fun o' ro' => (d, o') :: (r, ro') :: keep) G F (News.part N sub) hfr hk (UpdF.head (List.forall_mem_cons.mpr ⟨hrd, fun p hp => (hkp p hp).1⟩)) (fun o' => UpdF.tail (Ne.symm hrd) (UpdF.head fun p hp => (hkp p hp).2)) (fun p hp => List.mem_cons_of_mem _ (List.mem_cons_of_mem _ (hbs p hp))) C k hh hd hu
structure LawC (w : World) (B : Heap) (L : Addr) : Prop where
  S : Std w B
  C1 : CodeHd B 768 766
  C2 : CodeHd B 763 761
  C3 : CodeHd B 758 754
  C4 : CodeHd B 751 749
  le : @LE.le Nat _ B.objs.size L
  lt : @LT.lt Nat _ 766 L
noncomputable abbrev lawL (L d r b db gt dg mk dm cc : Addr) (es es2 es3 : List DictEntry) (k k2 k3 kc : Nat) (cs : List Value) (o ro c1 c2 : Obj) (p2 p3 p4 : Array Value) : List (Addr × Obj) :=
  [(d, o), (r, ro), (b, instObj 631 db), (db, dictOf es k), (gt, instObj 525 dg), (dg, dictOf es2 k2), (mk, instObj 223 dm), (dm, dictOf es3 k3), (cc, listOf cs.toArray kc), (L + 1, c1), (L + 2, c2), (766, tabObj #[]), (761, tabObj p2), (754, tabObj p3), (749, tabObj p4)]
theorem num_law {w : World} {B h0 g h : Heap} {L d r b db gt dg mk dm cc : Addr} {es es2 es3 : List DictEntry} {k k2 k3 kc : Nat} {cs : List Value} {o ro : Obj} {c : Nat} {all : List (Addr × Obj)} (S : Std w B) (G : Gr B h0 g []) (N : News g L h all) (sub : ∀ p ∈ (d, o) :: (r, ro) :: bufE b db gt dg mk dm cc es es2 es3 k k2 k3 kc cs, p ∈ all) (hK : DeckO o) (hR : RowsO w c ro) (hc : c ≤ 1000) (hok : BufOk gt mk cc r es es2 es3 cs)
    (hrd : @Ne Nat r d) (hbd : ∀ p ∈ bufE b db gt dg mk dm cc es es2 es3 k k2 k3 kc cs, @Ne Nat p.1 d ∧ @Ne Nat p.1 r) :
    CallsG w 350 (.ref 716) [.ref d, .ref b] B ((d, o) :: (r, ro) :: bufE b db gt dg mk dm cc es es2 es3 k k2 k3 kc cs) (fun _ => True) (NumP w c d r (bufE b db gt dg mk dm cc es es2 es3 k k2 k3 kc cs)) :=
  num_calls S (fun p hp => by
    cases q : B.get? p.1 with
    | none => rfl
    | some o => have := G.base _ _ q; rw [(N p (sub p hp)).2.2] at this; cases this) hK hR hc hok (List.forall_mem_cons.mpr ⟨hrd, fun p hp => (hbd p hp).1⟩) (List.forall_mem_cons.mpr ⟨Ne.symm hrd, fun p hp => (hbd p hp).2⟩)
theorem LawIs.begin {w : World} {name name' qual : Str} {params : Arguments} {body body' : List Stmt} {scope scope' : Scope} {dV kV doc pm cdv ct oc : Value} {an od : Option Addr} {osl : Array (Option Value)} {P : Str → Scope → List Stmt → Prop} (x : LawIs w name' scope' body')
    (ho : (Mine.hd.heap_39 w.params).lookup 769 = some ⟨oc, od, .func (fnOf name qual params body scope dV kV doc pm an cdv ct), osl⟩) (h : LawIs w name scope body → P name scope body) : P name' scope' body' := by
  have y := LawIs.mk' ho
  rw [← x.name, ← x.scope, ← x.body, y.name, y.scope, y.body]
  exact h y
theorem ne766 {p2 p3 p4 : Array Value} : ∀ p ∈ [((761 : Addr), tabObj p2), (754, tabObj p3), (749, tabObj p4)], @Ne Nat p.1 766 := by
  intro p hp
  simp only [List.mem_cons, List.not_mem_nil, or_false] at hp
  rcases hp with rfl | rfl | rfl <;> (dsimp only; exact Nat.ne_of_lt (by decide))
theorem list_not_tab {its : Array Value} {n : Nat} : listOf its n ≠ tabObj #[] := fun e => by simp at e
theorem DeckO.not_tab {o : Obj} (x : DeckO o) : o ≠ tabObj #[] := by
  obtain ⟨vs, ds, c, rfl, _⟩ := x
  exact list_not_tab
theorem RowsO.not_tab {w : World} {c : Nat} {o : Obj} (x : RowsO w c o) : o ≠ tabObj #[] := fun e => by
  obtain ⟨kvs, h, _⟩ := x
  rw [e] at h
  obtain ⟨es, ep, _, h1, _⟩ := h
  simp at h1
theorem cell_not_tab {o : Obj} {v : Option Value} (x : o.data = .cell v) : o ≠ tabObj #[] := fun e => by rw [e] at x; simp at x
theorem inst_not_tab {c d : Addr} : instObj c d ≠ tabObj #[] := fun e => by simp [instObj] at e
theorem dict_not_tab {es : List DictEntry} {k : Nat} : dictOf es k ≠ tabObj #[] := fun e => by simp [dictOf] at e
section
variable {w : World} {B h g h' : Heap} {l : List Env} {name : Str} {scope : Scope} {L a : Addr} {cd : Value} {cl : List (Str × Addr)} {s : Shared} {m : Str → Option Value} {all : List (Addr × Obj)}
theorem CallsT.useK {n : Nat} {f : Value} {args : List Value} {P : Value → Heap → Prop} {A : Around} {Q E : Value → Shared → Prop} {tab : Addr} (keep : List (Addr × Obj)) (G : Gr B h g l) (F : Fr g L s.heap m) (N : News g L s.heap all) (hmt : (tab, tabObj #[]) ∈ all) (hfr : A.frames = some (envX name scope L a cd cl :: l)) (hk : scope.kind ≠ .module)
    (sub : ∀ p ∈ keep, p ∈ all) (hko : ∀ p ∈ keep, p.2 ≠ tabObj #[] ∨ @Ne Nat p.1 tab)
    (C : ∀ D : Heap, B.StaysIn D → D.get? tab = none → (∀ p ∈ all, p.2 ≠ tabObj #[] → D.get? p.1 = some p.2) → CallsT w n f args D tab P)
    (k : ∀ g' v h' tk' ps, P v h' → Gr B h g' l → Fr g' L h' m → News g' L h' ((tab, tabObj ps) :: keep) → Q v { s with heap := h', toks := tk' })
    (hh : autoParam (A.handled = none) auR) (hd : autoParam (A.depth ≤ n) auL) (hu : autoParam (A.units ≤ 8 * n) auL) :
    wpAny (model Challenge.rw_np0089_01.row.prog w) A (call f args) Q E s := by
  have ap : ∀ p ∈ all, p.2 ≠ tabObj #[] → p.1 ≠ tab := fun p hp ne e => ne (by
    have h1 := (N p hp).1
    rw [show p.1 = tab from e, (N _ hmt).1] at h1
    exact (Option.some.inj h1).symm)
  let rest := all.filter fun p => decide (p.1 ≠ tab)
  have hr : ∀ p ∈ rest, p ∈ all ∧ p.1 ≠ tab := fun p hp => by
    obtain ⟨x, y⟩ := List.mem_filter.mp hp
    exact ⟨x, of_decide_eq_true y⟩
  have hr2 : ∀ p ∈ all, p.1 ≠ tab → p ∈ rest := fun p hp ne => List.mem_filter.mpr ⟨hp, decide_eq_true ne⟩
  refine CallsT.use G F (News.part N (news := (tab, tabObj #[]) :: rest) (List.forall_mem_cons.mpr ⟨hmt, fun p hp => (hr p hp).1⟩)) (UpdF.head fun p hp => (hr p hp).2) hfr hk (fun D x y z => C D x y fun p hp ne => z p (List.mem_cons_of_mem _ (hr2 p hp (ap p hp ne))) (ap p hp ne)) (fun g' v h' tk' ps p G' F' N' => ?_) hh hd hu
  refine k g' v h' tk' ps p G' F' (News.part N' (List.forall_mem_cons.mpr ⟨List.mem_cons_self .., fun p hp => List.mem_cons_of_mem _ (hr2 p (sub p hp) ((hko p hp).elim (ap p (sub p hp)) id))⟩))
end
theorem law_apart {L d r b db gt dg mk dm cc : Addr} {es es2 es3 : List DictEntry} {k k2 k3 kc : Nat} {cs : List Value} {c1 c2 o1 o2 o3 o4 : Obj} (hbd : ∀ p ∈ bufE b db gt dg mk dm cc es es2 es3 k k2 k3 kc cs, @Ne Nat p.1 d ∧ @Ne Nat p.1 r) (hmd : ∀ a ∈ [L + 1, L + 2, 766, 761, 754, 749], @Ne Nat a d ∧ @Ne Nat a r) :
    ∀ p ∈ bufE b db gt dg mk dm cc es es2 es3 k k2 k3 kc cs ++ [(L + 1, c1), (L + 2, c2), (766, o1), (761, o2), (754, o3), (749, o4)], @Ne Nat p.1 d ∧ @Ne Nat p.1 r := fun p hp => (List.mem_append.mp hp).elim (hbd p) fun hp => by
  refine hmd p.1 ?_
  simp only [List.mem_cons, List.not_mem_nil, or_false] at hp ⊢
  rcases hp with rfl | rfl | rfl | rfl | rfl | rfl <;> simp
end Mine.Internal
namespace Mine.Internal
noncomputable abbrev twoScope (g x : Str) : Scope := { kind := .function, names := [(g, .globalImplicit), (x, .globalImplicit)], isGenerator := false, isCoroutine := false, more := [] }
noncomputable abbrev oneScope (g : Str) : Scope := { kind := .function, names := [(g, .globalImplicit)], isGenerator := false, isCoroutine := false, more := [] }
section
variable {w : World} {h : Heap} {f c' : Addr} {name qual : Str} {pm ctv : Value} {p1 p2 p3 p4 p5 p6 p7 p8 p9 : Pos}
theorem lam_plus_nil (S : Std w h) (ho : h.get? f = some (kla_obj name qual noArgs (.Call (.Name (Str.ofString "plus") p1) [.Constant Const.none 0 p2, .List [.Constant (.int 1) 0 p3, .Name (Str.ofString "NIL") p4] p5] [] p6) (twoScope (Str.ofString "plus") (Str.ofString "NIL")) [] pm c' ctv)) (hcd : h.CodeRec (.ref c') qual) : Raises w 378 (.ref f) [] h (Str.ofString "wrong-type-argument") := by
 k_with "e_q" =>
  walk_at "m_rlam"
  k_steps
 k_extra "e_Q"
theorem lam_shift_over (S : Std w h) (ho : h.get? f = some (kla_obj name qual noArgs (.Call (.Name (Str.ofString "shift") p1) [.Constant Const.none 0 p2, .List [.Constant (.int 1) 0 p3, .Constant (.int 65537) 0 p4] p5] [] p6) (oneScope (Str.ofString "shift")) [] pm c' ctv)) (hcd : h.CodeRec (.ref c') qual) : Raises w 378 (.ref f) [] h (Str.ofString "overflow-error") := by
 k_with "e_q" =>
  walk_at "m_rlam"
  k_steps
 k_extra "e_Q"
theorem lam_power_over (S : Std w h) (ho : h.get? f = some (kla_obj name qual noArgs (.Call (.Name (Str.ofString "power") p1) [.Constant Const.none 0 p2, .List [.Constant (.int 2) 0 p3, .Constant (.int 65536) 0 p4] p5] [] p6) (oneScope (Str.ofString "power")) [] pm c' ctv)) (hcd : h.CodeRec (.ref c') qual) : Raises w 378 (.ref f) [] h (Str.ofString "overflow-error") := by
 k_with "e_q" =>
  walk_at "m_rlam"
  k_steps
 k_extra "e_Q"
theorem lam_less_off (S : Std w h) (ho : h.get? f = some (kla_obj name qual noArgs (.Call (.Name (Str.ofString "less") p1) [.Constant Const.none 0 p2, .List [.Constant (.int 1) 0 p3, .Call (.Name (Str.ofString "Marker") p4) [.Constant (.int 1) 0 p7, .Constant (.bool false) 0 p8] [] p9] p5] [] p6) (twoScope (Str.ofString "less") (Str.ofString "Marker")) [] pm c' ctv)) (hcd : h.CodeRec (.ref c') qual) : Raises w 378 (.ref f) [] h (Str.ofString "error") := by
 k_with "e_q" =>
  walk_at "m_rlam"
  have zBel : Below (AtR 378 zl) (hideAll h (frs zl)) zl h := ⟨rfl, hide_stays _, funFrames_hide zfl (frames_in zfl)⟩
  k_steps
 k_extra "e_Q"
end
end Mine.Internal
namespace Mine.Internal
namespace segE_e
noncomputable def zzQ (w : World) (name : Str) (scope : Scope) (body : List Stmt) (L : Addr) (fa : Addr) (B : Heap) (h0 : Heap) (g : Heap) (h : Heap) (s : Shared) (tk : Nat) (m : Str → Option Value) (p1 : Array Value) (p2 : Array Value) (p3 : Array Value) : Prop := ∀ hb : LawIs w name scope body, ∀ SB : Std w B, ∀ C : CodeHd B 768 766, ∀ hBL : @LE.le Nat _ B.objs.size L, ∀ G : Gr B h0 g [], ∀ F : Fr g L h m, ∀ N : News g L h [(766, tabObj #[]), (761, tabObj p1), (754, tabObj p2), (749, tabObj p3)], ∀ hne1 : ∀ p ∈ [((761 : Addr), tabObj p1), (754, tabObj p2), (749, tabObj p3)], @Ne Nat p.1 766, ∀ hlt : @LT.lt Nat _ 766 L, wpAny (model Challenge.rw_np0089_01.row.prog w) (callerA.deeper (LawEnv name scope L fa)) (execs (body.drop 9) (LawEnv name scope L fa)) (fun fl s' => LawEnd B L s (flv fl) s') (fun _ _ => False) { s with heap := h, toks := tk }
noncomputable abbrev zzT : Type := World × Str × Scope × (List Stmt) × Addr × Addr × Heap × Heap × Heap × Heap × Shared × Nat × (Str → Option Value) × (Array Value) × (Array Value) × (Array Value)
noncomputable def zzS (z : zzT) : Prop := zzQ z.1 z.2.1 z.2.2.1 z.2.2.2.1 z.2.2.2.2.1 z.2.2.2.2.2.1 z.2.2.2.2.2.2.1 z.2.2.2.2.2.2.2.1 z.2.2.2.2.2.2.2.2.1 z.2.2.2.2.2.2.2.2.2.1 z.2.2.2.2.2.2.2.2.2.2.1 z.2.2.2.2.2.2.2.2.2.2.2.1 z.2.2.2.2.2.2.2.2.2.2.2.2.1 z.2.2.2.2.2.2.2.2.2.2.2.2.2.1 z.2.2.2.2.2.2.2.2.2.2.2.2.2.2.1 z.2.2.2.2.2.2.2.2.2.2.2.2.2.2.2
noncomputable def zzc : zzT := @Classical.epsilon zzT ⟨(zw, cN, cN, cN, cN, cN, cN, cN, cN, cN, zs, cN, cN, cN, cN, cN)⟩ fun z => ¬ zzS z
theorem zzcore : zzS zzc := by
 k_with "e_q" =>
  show zzQ _ _ _ _ _ _ _ _ _ _ _ _ _ _ _ _
  generalize zzc.1 = w; generalize zzc.2.1 = name; generalize zzc.2.2.1 = scope; generalize zzc.2.2.2.1 = body; generalize zzc.2.2.2.2.1 = L; generalize zzc.2.2.2.2.2.1 = fa; generalize zzc.2.2.2.2.2.2.1 = B; generalize zzc.2.2.2.2.2.2.2.1 = h0; generalize zzc.2.2.2.2.2.2.2.2.1 = g; generalize zzc.2.2.2.2.2.2.2.2.2.1 = h; generalize zzc.2.2.2.2.2.2.2.2.2.2.1 = s; generalize zzc.2.2.2.2.2.2.2.2.2.2.2.1 = tk; generalize zzc.2.2.2.2.2.2.2.2.2.2.2.2.1 = m; generalize zzc.2.2.2.2.2.2.2.2.2.2.2.2.2.1 = p1; generalize zzc.2.2.2.2.2.2.2.2.2.2.2.2.2.2.1 = p2; generalize zzc.2.2.2.2.2.2.2.2.2.2.2.2.2.2.2 = p3
  intro hb SB C hBL G F N hne1 hlt
  have zOn : ZOn := .mk
  refine hb.start (P := fun name scope body => wpAny (model Challenge.rw_np0089_01.row.prog w) (callerA.deeper (LawEnv name scope L fa)) (execs (body.drop 9) (LawEnv name scope L fa)) (fun fl s' => LawEnd B L s (flv fl) s') (fun _ _ => False) { s with heap := h, toks := tk }) (by k_is) ?_
  dsimp only [List.drop]
  have S : Std w g := SB.keeps G.base
  have zC9 := CodeHd.keeps C G.base
  have zX := Std.X S
  have zT := Std.top S
  k_with "compareOp Eq ref ref" => (k_here; (with_reducible show wpAny _ _ (compareOp CmpOp.Eq (Value.ref _) (Value.ref _)) _ _ _); k_dflt ((refine eq_dataH (by ke_read) (by ke_read) (by ke_shaped) (by ke_shaped) (by ke_room) ?_); ke_norm; (fail_if_success (goal_has PySem.PyData.eqvAll)); ke_norm))
  k_with "m_told" => (k_extra "FN"; (have zG9 := (by assumption : Gr _ _ _ _)); (first
    | ((refine told_raiseN SB zG9 (by exact lF') (by exact lN') (by rfl) (by decide) (by k_mem) (by k_mem) (by assumption) (by assumption) (fun h' hN' S' hB ho hcd => lam_plus_nil S' ho hcd) ?_; (first | (k_extra "m_on"; refine epsT5 ?_; generalize pj1 _ = zg'; generalize pj2 _ = ztk9; generalize pj3 _ = zv; generalize pj4 _ = zh'; generalize pl5 _ = ztk'; intro ze zG' zS' zF' zN') | intro zg' ztk9 zv zh' ztk' ze zG' zS' zF' zN')))
    | ((refine told_raiseN SB zG9 (by exact lF') (by exact lN') (by rfl) (by decide) (by k_mem) (by k_mem) (by assumption) (by assumption) (fun h' hN' S' hB ho hcd => lam_less_off S' ho hcd) ?_; (first | (k_extra "m_on"; refine epsT5 ?_; generalize pj1 _ = zg'; generalize pj2 _ = ztk9; generalize pj3 _ = zv; generalize pj4 _ = zh'; generalize pl5 _ = ztk'; intro ze zG' zS' zF' zN') | intro zg' ztk9 zv zh' ztk' ze zG' zS' zF' zN')))
    | ((refine told_raiseN SB zG9 (by exact lF') (by exact lN') (by rfl) (by decide) (by k_mem) (by k_mem) (by assumption) (by assumption) (fun h' hN' S' hB ho hcd => lam_shift_over S' ho hcd) ?_; (first | (k_extra "m_on"; refine epsT5 ?_; generalize pj1 _ = zg'; generalize pj2 _ = ztk9; generalize pj3 _ = zv; generalize pj4 _ = zh'; generalize pl5 _ = ztk'; intro ze zG' zS' zF' zN') | intro zg' ztk9 zv zh' ztk' ze zG' zS' zF' zN')))
    | ((refine told_raiseN SB zG9 (by exact lF') (by exact lN') (by rfl) (by decide) (by k_mem) (by k_mem) (by assumption) (by assumption) (fun h' hN' S' hB ho hcd => lam_power_over S' ho hcd) ?_; (first | (k_extra "m_on"; refine epsT5 ?_; generalize pj1 _ = zg'; generalize pj2 _ = ztk9; generalize pj3 _ = zv; generalize pj4 _ = zh'; generalize pl5 _ = ztk'; intro ze zG' zS' zF' zN') | intro zg' ztk9 zv zh' ztk' ze zG' zS' zF' zN')))); (subst ze); (clear zX zT); (have zC9 := CodeHd.keeps C (Gr.base zG')); (have zX := Std.X zS'); (have zT := Std.top zS'))
  k_steps
 k_extra "e_Q"
end segE_e
theorem segE {w : World} {name : Str} {scope : Scope} {body : List Stmt} {L fa : Addr} {B h0 g h : Heap} {s : Shared} {tk : Nat} {m : Str → Option Value} {p1 p2 p3 : Array Value} (hb : LawIs w name scope body) (SB : Std w B) (C : CodeHd B 768 766) (hBL : @LE.le Nat _ B.objs.size L) (G : Gr B h0 g []) (F : Fr g L h m)
    (N : News g L h [(766, tabObj #[]), (761, tabObj p1), (754, tabObj p2), (749, tabObj p3)]) (hne1 : ∀ p ∈ [((761 : Addr), tabObj p1), (754, tabObj p2), (749, tabObj p3)], @Ne Nat p.1 766) (hlt : @LT.lt Nat _ 766 L) : wpAny (model Challenge.rw_np0089_01.row.prog w) (callerA.deeper (LawEnv name scope L fa)) (execs (body.drop 9) (LawEnv name scope L fa)) (fun fl s' => LawEnd B L s (flv fl) s') (fun _ _ => False) { s with heap := h, toks := tk } := epsU (P := segE_e.zzS) (by with_unfolding_all exact segE_e.zzcore) (w, name, scope, body, L, fa, B, h0, g, h, s, tk, m, p1, p2, p3) hb SB C hBL G F N hne1 hlt
end Mine.Internal
namespace Mine.Internal
namespace segD_e
noncomputable def zzQ (w : World) (name : Str) (scope : Scope) (body : List Stmt) (L : Addr) (fa : Addr) (d : Addr) (r : Addr) (b : Addr) (db : Addr) (gt : Addr) (dg : Addr) (mk : Addr) (dm : Addr) (cc : Addr) (B : Heap) (h0 : Heap) (g : Heap) (h : Heap) (s : Shared) (tk : Nat) (m : Str → Option Value) (es : List DictEntry) (es2 : List DictEntry) (es3 : List DictEntry) (k : Nat) (k2 : Nat) (k3 : Nat) (kc : Nat) (cs : List Value) (o : Obj) (ro : Obj) (c1 : Obj) (c2 : Obj) (p4 : Array Value) : Prop := ∀ hb : LawIs w name scope body, ∀ X : LawC w B L, ∀ G : Gr B h0 g [], ∀ F : Fr g L h m, ∀ N : News g L h (lawL L d r b db gt dg mk dm cc es es2 es3 k k2 k3 kc cs o ro c1 c2 #[] #[] p4), ∀ hc1 : c1.data = .cell (some (.ref d)), ∀ hc2 : c2.data = .cell (some (.ref b)), ∀ hK : DeckO o, ∀ hR : RowsO w 4 ro, ∀ hok : BufOk gt mk cc r es es2 es3 cs, ∀ hrd : @Ne Nat r d, ∀ hbd : ∀ p ∈ bufE b db gt dg mk dm cc es es2 es3 k k2 k3 kc cs, @Ne Nat p.1 d ∧ @Ne Nat p.1 r, ∀ hmd : ∀ a ∈ [L + 1, L + 2, 766, 761, 754, 749], @Ne Nat a d ∧ @Ne Nat a r, wpAny (model Challenge.rw_np0089_01.row.prog w) (callerA.deeper (LawEnv name scope L fa)) (execs (body.drop 6) (LawEnv name scope L fa)) (fun fl s' => LawEnd B L s (flv fl) s') (fun _ _ => False) { s with heap := h, toks := tk }
noncomputable abbrev zzT : Type := World × Str × Scope × (List Stmt) × Addr × Addr × Addr × Addr × Addr × Addr × Addr × Addr × Addr × Addr × Addr × Heap × Heap × Heap × Heap × Shared × Nat × (Str → Option Value) × (List DictEntry) × (List DictEntry) × (List DictEntry) × Nat × Nat × Nat × Nat × (List Value) × Obj × Obj × Obj × Obj × (Array Value)
noncomputable def zzS (z : zzT) : Prop := zzQ z.1 z.2.1 z.2.2.1 z.2.2.2.1 z.2.2.2.2.1 z.2.2.2.2.2.1 z.2.2.2.2.2.2.1 z.2.2.2.2.2.2.2.1 z.2.2.2.2.2.2.2.2.1 z.2.2.2.2.2.2.2.2.2.1 z.2.2.2.2.2.2.2.2.2.2.1 z.2.2.2.2.2.2.2.2.2.2.2.1 z.2.2.2.2.2.2.2.2.2.2.2.2.1 z.2.2.2.2.2.2.2.2.2.2.2.2.2.1 z.2.2.2.2.2.2.2.2.2.2.2.2.2.2.1 z.2.2.2.2.2.2.2.2.2.2.2.2.2.2.2.1 z.2.2.2.2.2.2.2.2.2.2.2.2.2.2.2.2.1 z.2.2.2.2.2.2.2.2.2.2.2.2.2.2.2.2.2.1 z.2.2.2.2.2.2.2.2.2.2.2.2.2.2.2.2.2.2.1 z.2.2.2.2.2.2.2.2.2.2.2.2.2.2.2.2.2.2.2.1 z.2.2.2.2.2.2.2.2.2.2.2.2.2.2.2.2.2.2.2.2.1 z.2.2.2.2.2.2.2.2.2.2.2.2.2.2.2.2.2.2.2.2.2.1 z.2.2.2.2.2.2.2.2.2.2.2.2.2.2.2.2.2.2.2.2.2.2.1 z.2.2.2.2.2.2.2.2.2.2.2.2.2.2.2.2.2.2.2.2.2.2.2.1 z.2.2.2.2.2.2.2.2.2.2.2.2.2.2.2.2.2.2.2.2.2.2.2.2.1 z.2.2.2.2.2.2.2.2.2.2.2.2.2.2.2.2.2.2.2.2.2.2.2.2.2.1 z.2.2.2.2.2.2.2.2.2.2.2.2.2.2.2.2.2.2.2.2.2.2.2.2.2.2.1 z.2.2.2.2.2.2.2.2.2.2.2.2.2.2.2.2.2.2.2.2.2.2.2.2.2.2.2.1 z.2.2.2.2.2.2.2.2.2.2.2.2.2.2.2.2.2.2.2.2.2.2.2.2.2.2.2.2.1 z.2.2.2.2.2.2.2.2.2.2.2.2.2.2.2.2.2.2.2.2.2.2.2.2.2.2.2.2.2.1 z.2.2.2.2.2.2.2.2.2.2.2.2.2.2.2.2.2.2.2.2.2.2.2.2.2.2.2.2.2.2.1 z.2.2.2.2.2.2.2.2.2.2.2.2.2.2.2.2.2.2.2.2.2.2.2.2.2.2.2.2.2.2.2.1 z.2.2.2.2.2.2.2.2.2.2.2.2.2.2.2.2.2.2.2.2.2.2.2.2.2.2.2.2.2.2.2.2.1 z.2.2.2.2.2.2.2.2.2.2.2.2.2.2.2.2.2.2.2.2.2.2.2.2.2.2.2.2.2.2.2.2.2.1 z.2.2.2.2.2.2.2.2.2.2.2.2.2.2.2.2.2.2.2.2.2.2.2.2.2.2.2.2.2.2.2.2.2.2
noncomputable def zzc : zzT := @Classical.epsilon zzT ⟨(zw, cN, cN, cN, cN, cN, cN, cN, cN, cN, cN, cN, cN, cN, cN, cN, cN, cN, cN, zs, cN, cN, cN, cN, cN, cN, cN, cN, cN, cN, cN, cN, cN, cN, cN)⟩ fun z => ¬ zzS z
theorem zzcore : zzS zzc := by
 k_with "e_q" =>
  show zzQ _ _ _ _ _ _ _ _ _ _ _ _ _ _ _ _ _ _ _ _ _ _ _ _ _ _ _ _ _ _ _ _ _ _ _
  generalize zzc.1 = w; generalize zzc.2.1 = name; generalize zzc.2.2.1 = scope; generalize zzc.2.2.2.1 = body; generalize zzc.2.2.2.2.1 = L; generalize zzc.2.2.2.2.2.1 = fa; generalize zzc.2.2.2.2.2.2.1 = d; generalize zzc.2.2.2.2.2.2.2.1 = r; generalize zzc.2.2.2.2.2.2.2.2.1 = b; generalize zzc.2.2.2.2.2.2.2.2.2.1 = db; generalize zzc.2.2.2.2.2.2.2.2.2.2.1 = gt; generalize zzc.2.2.2.2.2.2.2.2.2.2.2.1 = dg; generalize zzc.2.2.2.2.2.2.2.2.2.2.2.2.1 = mk; generalize zzc.2.2.2.2.2.2.2.2.2.2.2.2.2.1 = dm; generalize zzc.2.2.2.2.2.2.2.2.2.2.2.2.2.2.1 = cc; generalize zzc.2.2.2.2.2.2.2.2.2.2.2.2.2.2.2.1 = B; generalize zzc.2.2.2.2.2.2.2.2.2.2.2.2.2.2.2.2.1 = h0; generalize zzc.2.2.2.2.2.2.2.2.2.2.2.2.2.2.2.2.2.1 = g; generalize zzc.2.2.2.2.2.2.2.2.2.2.2.2.2.2.2.2.2.2.1 = h; generalize zzc.2.2.2.2.2.2.2.2.2.2.2.2.2.2.2.2.2.2.2.1 = s; generalize zzc.2.2.2.2.2.2.2.2.2.2.2.2.2.2.2.2.2.2.2.2.1 = tk; generalize zzc.2.2.2.2.2.2.2.2.2.2.2.2.2.2.2.2.2.2.2.2.2.1 = m; generalize zzc.2.2.2.2.2.2.2.2.2.2.2.2.2.2.2.2.2.2.2.2.2.2.1 = es; generalize zzc.2.2.2.2.2.2.2.2.2.2.2.2.2.2.2.2.2.2.2.2.2.2.2.1 = es2; generalize zzc.2.2.2.2.2.2.2.2.2.2.2.2.2.2.2.2.2.2.2.2.2.2.2.2.1 = es3; generalize zzc.2.2.2.2.2.2.2.2.2.2.2.2.2.2.2.2.2.2.2.2.2.2.2.2.2.1 = k; generalize zzc.2.2.2.2.2.2.2.2.2.2.2.2.2.2.2.2.2.2.2.2.2.2.2.2.2.2.1 = k2; generalize zzc.2.2.2.2.2.2.2.2.2.2.2.2.2.2.2.2.2.2.2.2.2.2.2.2.2.2.2.1 = k3; generalize zzc.2.2.2.2.2.2.2.2.2.2.2.2.2.2.2.2.2.2.2.2.2.2.2.2.2.2.2.2.1 = kc; generalize zzc.2.2.2.2.2.2.2.2.2.2.2.2.2.2.2.2.2.2.2.2.2.2.2.2.2.2.2.2.2.1 = cs; generalize zzc.2.2.2.2.2.2.2.2.2.2.2.2.2.2.2.2.2.2.2.2.2.2.2.2.2.2.2.2.2.2.1 = o; generalize zzc.2.2.2.2.2.2.2.2.2.2.2.2.2.2.2.2.2.2.2.2.2.2.2.2.2.2.2.2.2.2.2.1 = ro; generalize zzc.2.2.2.2.2.2.2.2.2.2.2.2.2.2.2.2.2.2.2.2.2.2.2.2.2.2.2.2.2.2.2.2.1 = c1; generalize zzc.2.2.2.2.2.2.2.2.2.2.2.2.2.2.2.2.2.2.2.2.2.2.2.2.2.2.2.2.2.2.2.2.2.1 = c2; generalize zzc.2.2.2.2.2.2.2.2.2.2.2.2.2.2.2.2.2.2.2.2.2.2.2.2.2.2.2.2.2.2.2.2.2.2 = p4
  intro hb X G F N hc1 hc2 hK hR hok hrd hbd hmd
  refine hb.begin (P := fun name scope body => wpAny (model Challenge.rw_np0089_01.row.prog w) (callerA.deeper (LawEnv name scope L fa)) (execs (body.drop 6) (LawEnv name scope L fa)) (fun fl s' => LawEnd B L s (flv fl) s') (fun _ _ => False) { s with heap := h, toks := tk }) (by k_is) fun hb' => ?_
  dsimp only [List.drop]
  dsimp only [lawL] at N
  have hq := law_apart (c1 := c1) (c2 := c2) (o1 := tabObj #[]) (o2 := tabObj #[]) (o3 := tabObj #[]) (o4 := tabObj p4) hbd hmd
  have hq1 := fun p hp => (hq p hp).1
  simp only [bufE, List.cons_append, List.nil_append] at hq1
  have SB := X.S
  have hBL := X.le
  have hlt := X.lt
  have S : Std w g := SB.keeps G.base
  have zX := Std.X S
  obtain ⟨zp, zlo, zme, zmg, zmb, zT⟩ := Std.T S
  k_with "m_pos" => decide
  k_with "m_log" => decide
  k_with "m_num" => (k_extra "FN"; (first
    | (refine num_useK ((zD, listOf #[zown, .int zn zt] zk) :: (za, zao) :: (ze, zeo) :: (bufE b db gt dg mk dm cc es es2 es3 k k2 k3 kc cs ++ [(L + 1, c1), (L + 2, c2), (766, tabObj #[]), (761, tabObj #[]), (754, tabObj #[]), (749, tabObj p4)])) (by assumption) (by exact lF') (by exact lN') (by rfl) (by decide) (by lcg_sub) hrd (List.forall_mem_cons.mpr ⟨⟨zn1 _ (by simp), zn2 _ (by simp)⟩, List.forall_mem_cons.mpr ⟨⟨zn1 _ (by simp), zn2 _ (by simp)⟩, List.forall_mem_cons.mpr ⟨⟨zn1 _ (by simp), zn2 _ (by simp)⟩, hq⟩⟩⟩) (by lcg_sub) (num_law SB (by assumption) lN' (by lcg_sub) (by with_reducible assumption) (by with_reducible assumption) (by decide) hok hrd hbd) (fun zh' ztk' zx zo' zro' zok zK zR zm1 zm2 zF' zN' => ?_); (obtain ⟨zD2, zown2, zn22, zt2, zk2, za2, zao2, ze2, zeo2⟩ := zx); (have hzD : @Ne Nat zD d := zn1 (zD, _) (List.mem_cons_self ..)); (clear zm1 zm2 zn1 zn2))
    | (refine num_useK (bufE b db gt dg mk dm cc es es2 es3 k k2 k3 kc cs ++ [(L + 1, c1), (L + 2, c2), (766, tabObj #[]), (761, tabObj #[]), (754, tabObj #[]), (749, tabObj p4)]) (by assumption) (by exact lF') (by exact lN') (by rfl) (by decide) (by lcg_sub) hrd hq (by lcg_sub) (num_law SB (by assumption) lN' (by lcg_sub) (by with_reducible assumption) (by with_reducible assumption) (by decide) hok hrd hbd) (fun zh' ztk' zx zo' zro' zok zK zR zn1 zn2 zF' zN' => ?_); (obtain ⟨zD, zown, zn, zt, zk, za, zao, ze, zeo⟩ := zx); (dsimp only [NRow.ents] at zn1 zn2))); (obtain ⟨zow, zbits⟩ := zok); (dsimp only [bufE, List.cons_append, List.nil_append] at zN'); (dsimp only at zow zbits))
  k_with "m_pair" => (k_extra "FN"; refine CallsT.useK [(zD, listOf #[zown, .int zn zt] zk), (d, _), (r, _), (b, instObj 631 db), (db, dictOf es k), (gt, instObj 525 dg), (dg, dictOf es2 k2), (mk, instObj 223 dm), (dm, dictOf es3 k3), (cc, listOf cs.toArray kc), (L + 1, c1), (L + 2, c2), (766, tabObj #[]), (761, tabObj #[]), (749, _)] (by assumption) (by exact lF') (by exact lN') (by k_mem) (by rfl) (by decide) (by lcg_sub) (by intro p hp; simp only [List.mem_cons, List.not_mem_nil, or_false] at hp; (repeat' (rcases hp with rfl | hp)); all_goals first | (subst hp; walk_at "m_keep") | walk_at "m_keep") (fun D hBD hDt hN => pair_all (SB.keeps hBD) (X.C3.keeps hBD) hDt (OwnIs.atN (by with_reducible assumption) (fun q => hN (_, _) (by k_mem) q) (fun q => hN (_, _) (by k_mem) q)) (OwnIs.atN (by with_reducible assumption) (fun q => hN (_, _) (by k_mem) q) (fun q => hN (_, _) (by k_mem) q)) (by assumption) (by assumption)) (fun zg' zv zh' ztk' zps zp' zG' zF' zN' => ?_); subst zp'; (have zS' := SB.keeps (Gr.base zG')); (clear zX zT); (have zX := Std.X zS'); (obtain ⟨zp, zlo, zme, zmg, zmb, zT⟩ := Std.T zS'))
  k_with "m_alone" => (k_extra "FN"; refine CallsT.useK [(766, tabObj #[]), (754, _), (749, _)] (by assumption) (by exact lF') (by exact lN') (by k_mem) (by rfl) (by decide) (by lcg_sub) (by intro p hp; simp only [List.mem_cons, List.not_mem_nil, or_false] at hp; (repeat' (rcases hp with rfl | hp)); all_goals first | (subst hp; walk_at "m_keep") | walk_at "m_keep") (fun D hBD hDt hN => alone_all (SB.keeps hBD) (X.C2.keeps hBD) hDt (by lia) (by lia) (pop_law (inR_of_bits (by assumption))) (by assumption) (by lia) (by lia)) (fun zg' zv zh' ztk' zps zp' zG' zF' zN' => ?_); subst zp'; (have zS' := SB.keeps (Gr.base zG')); (clear zX zT); (have zX := Std.X zS'); (obtain ⟨zp, zlo, zme, zmg, zmb, zT⟩ := Std.T zS'))
  k_with "m_seg" => ((with_reducible show wpAny _ _ (execs (Stmt.Assign [Expr.Name _ ⟨483, 4, 483, 9⟩] _ _ :: _) _) _ _ _); k_extra "FN"; exact segE hb' SB X.C1 hBL (by assumption) (by exact lF') (News.part lN' (by lcg_sub)) ne766 hlt)
  k_steps
 k_extra "e_Q"
end segD_e
theorem segD {w : World} {name : Str} {scope : Scope} {body : List Stmt} {L fa d r b db gt dg mk dm cc : Addr} {B h0 g h : Heap} {s : Shared} {tk : Nat} {m : Str → Option Value} {es es2 es3 : List DictEntry} {k k2 k3 kc : Nat} {cs : List Value} {o ro c1 c2 : Obj} {p4 : Array Value} (hb : LawIs w name scope body) (X : LawC w B L) (G : Gr B h0 g []) (F : Fr g L h m)
    (N : News g L h (lawL L d r b db gt dg mk dm cc es es2 es3 k k2 k3 kc cs o ro c1 c2 #[] #[] p4)) (hc1 : c1.data = .cell (some (.ref d))) (hc2 : c2.data = .cell (some (.ref b))) (hK : DeckO o) (hR : RowsO w 4 ro) (hok : BufOk gt mk cc r es es2 es3 cs)
    (hrd : @Ne Nat r d) (hbd : ∀ p ∈ bufE b db gt dg mk dm cc es es2 es3 k k2 k3 kc cs, @Ne Nat p.1 d ∧ @Ne Nat p.1 r) (hmd : ∀ a ∈ [L + 1, L + 2, 766, 761, 754, 749], @Ne Nat a d ∧ @Ne Nat a r) : wpAny (model Challenge.rw_np0089_01.row.prog w) (callerA.deeper (LawEnv name scope L fa)) (execs (body.drop 6) (LawEnv name scope L fa)) (fun fl s' => LawEnd B L s (flv fl) s') (fun _ _ => False) { s with heap := h, toks := tk } := epsU (P := segD_e.zzS) (by with_unfolding_all exact segD_e.zzcore) (w, name, scope, body, L, fa, d, r, b, db, gt, dg, mk, dm, cc, B, h0, g, h, s, tk, m, es, es2, es3, k, k2, k3, kc, cs, o, ro, c1, c2, p4) hb X G F N hc1 hc2 hK hR hok hrd hbd hmd
end Mine.Internal
namespace Mine.Internal
namespace segC_e
noncomputable def zzQ (w : World) (name : Str) (scope : Scope) (body : List Stmt) (L : Addr) (fa : Addr) (P : Addr) (d : Addr) (r : Addr) (b : Addr) (db : Addr) (gt : Addr) (dg : Addr) (mk : Addr) (dm : Addr) (cc : Addr) (B : Heap) (h0 : Heap) (g : Heap) (h : Heap) (s : Shared) (tk : Nat) (m : Str → Option Value) (es : List DictEntry) (es2 : List DictEntry) (es3 : List DictEntry) (k : Nat) (k2 : Nat) (k3 : Nat) (kc : Nat) (kp : Nat) (cs : List Value) (o : Obj) (ro : Obj) (c1 : Obj) (c2 : Obj) (vw : List Two) (ns : List Int) (a0 : Addr) (a1 : Addr) (a2 : Addr) (a3 : Addr) (a4 : Addr) (a5 : Addr) (a6 : Addr) (a7 : Addr) (a8 : Addr) (a9 : Addr) (a10 : Addr) (a11 : Addr) (o0 : Obj) (o1 : Obj) (o2 : Obj) (o3 : Obj) (o4 : Obj) (o5 : Obj) (o6 : Obj) (o7 : Obj) (o8 : Obj) (o9 : Obj) (o10 : Obj) (o11 : Obj) : Prop := ∀ hb : LawIs w name scope body, ∀ X : LawC w B L, ∀ G : Gr B h0 g [], ∀ F : Fr g L h fun y => if y = Str.ofString "pairs" then some (.ref P) else m y, ∀ N : News g L h ((P, listOf (itemsOf vw).toArray kp) :: (lawL L d r b db gt dg mk dm cc es es2 es3 k k2 k3 kc cs o ro c1 c2 #[] #[] #[] ++ [(a0, o0), (a1, o1), (a2, o2), (a3, o3), (a4, o4), (a5, o5), (a6, o6), (a7, o7), (a8, o8), (a9, o9), (a10, o10), (a11, o11)])), ∀ hc1 : c1.data = .cell (some (.ref d)), ∀ hc2 : c2.data = .cell (some (.ref b)), ∀ hK : DeckO o, ∀ hR : RowsO w 4 ro, ∀ hok : BufOk gt mk cc r es es2 es3 cs, ∀ hrd : @Ne Nat r d, ∀ hbd : ∀ p ∈ bufE b db gt dg mk dm cc es es2 es3 k k2 k3 kc cs, @Ne Nat p.1 d ∧ @Ne Nat p.1 r, ∀ hmd : ∀ a ∈ [L + 1, L + 2, 766, 761, 754, 749], @Ne Nat a d ∧ @Ne Nat a r, ∀ hvw : vw.length ≤ 4, ∀ hit : ∀ p ∈ vw, ∃ k, (p.1, listOf #[p.2.1, p.2.2] k) ∈ ([(a0, o0), (a1, o1), (a2, o2), (a3, o3), (a4, o4), (a5, o5), (a6, o6), (a7, o7), (a8, o8), (a9, o9), (a10, o10), (a11, o11)] : List (Addr × Obj)), ∀ hnum : ∀ D : Heap, (∀ q ∈ ([(a0, o0), (a1, o1), (a2, o2), (a3, o3), (a4, o4), (a5, o5), (a6, o6), (a7, o7), (a8, o8), (a9, o9), (a10, o10), (a11, o11)] : List (Addr × Obj)), q.2 ≠ tabObj #[] → D.get? q.1 = some q.2) → NumsAt D (partsOf false vw) ns, ∀ hI : IntsAre (partsOf true vw) ns, ∀ hSm : Sm ns, ∀ hfold : ∀ D : Heap, Std w D → CodeHd D 751 749 → D.get? 749 = none → ∀ {l l2 : Addr} {vs us : List Value} {ns : List Int}, D.IsList l vs.toArray → NumsAt D vs ns → D.IsList l2 us.toArray → IntsAre us ns → Sm ns → CallsT w 350 (.ref 752) [.ref l, .ref l2] D 749 (fun v _ => v = .bool true), wpAny (model Challenge.rw_np0089_01.row.prog w) (callerA.deeper (LawEnv name scope L fa)) (execs (body.drop 4) (LawEnv name scope L fa)) (fun fl s' => LawEnd B L s (flv fl) s') (fun _ _ => False) { s with heap := h, toks := tk }
noncomputable abbrev zzT : Type := World × Str × Scope × (List Stmt) × Addr × Addr × Addr × Addr × Addr × Addr × Addr × Addr × Addr × Addr × Addr × Addr × Heap × Heap × Heap × Heap × Shared × Nat × (Str → Option Value) × (List DictEntry) × (List DictEntry) × (List DictEntry) × Nat × Nat × Nat × Nat × Nat × (List Value) × Obj × Obj × Obj × Obj × (List Two) × (List Int) × Addr × Addr × Addr × Addr × Addr × Addr × Addr × Addr × Addr × Addr × Addr × Addr × Obj × Obj × Obj × Obj × Obj × Obj × Obj × Obj × Obj × Obj × Obj × Obj
noncomputable def zzS (z : zzT) : Prop := zzQ z.1 z.2.1 z.2.2.1 z.2.2.2.1 z.2.2.2.2.1 z.2.2.2.2.2.1 z.2.2.2.2.2.2.1 z.2.2.2.2.2.2.2.1 z.2.2.2.2.2.2.2.2.1 z.2.2.2.2.2.2.2.2.2.1 z.2.2.2.2.2.2.2.2.2.2.1 z.2.2.2.2.2.2.2.2.2.2.2.1 z.2.2.2.2.2.2.2.2.2.2.2.2.1 z.2.2.2.2.2.2.2.2.2.2.2.2.2.1 z.2.2.2.2.2.2.2.2.2.2.2.2.2.2.1 z.2.2.2.2.2.2.2.2.2.2.2.2.2.2.2.1 z.2.2.2.2.2.2.2.2.2.2.2.2.2.2.2.2.1 z.2.2.2.2.2.2.2.2.2.2.2.2.2.2.2.2.2.1 z.2.2.2.2.2.2.2.2.2.2.2.2.2.2.2.2.2.2.1 z.2.2.2.2.2.2.2.2.2.2.2.2.2.2.2.2.2.2.2.1 z.2.2.2.2.2.2.2.2.2.2.2.2.2.2.2.2.2.2.2.2.1 z.2.2.2.2.2.2.2.2.2.2.2.2.2.2.2.2.2.2.2.2.2.1 z.2.2.2.2.2.2.2.2.2.2.2.2.2.2.2.2.2.2.2.2.2.2.1 z.2.2.2.2.2.2.2.2.2.2.2.2.2.2.2.2.2.2.2.2.2.2.2.1 z.2.2.2.2.2.2.2.2.2.2.2.2.2.2.2.2.2.2.2.2.2.2.2.2.1 z.2.2.2.2.2.2.2.2.2.2.2.2.2.2.2.2.2.2.2.2.2.2.2.2.2.1 z.2.2.2.2.2.2.2.2.2.2.2.2.2.2.2.2.2.2.2.2.2.2.2.2.2.2.1 z.2.2.2.2.2.2.2.2.2.2.2.2.2.2.2.2.2.2.2.2.2.2.2.2.2.2.2.1 z.2.2.2.2.2.2.2.2.2.2.2.2.2.2.2.2.2.2.2.2.2.2.2.2.2.2.2.2.1 z.2.2.2.2.2.2.2.2.2.2.2.2.2.2.2.2.2.2.2.2.2.2.2.2.2.2.2.2.2.1 z.2.2.2.2.2.2.2.2.2.2.2.2.2.2.2.2.2.2.2.2.2.2.2.2.2.2.2.2.2.2.1 z.2.2.2.2.2.2.2.2.2.2.2.2.2.2.2.2.2.2.2.2.2.2.2.2.2.2.2.2.2.2.2.1 z.2.2.2.2.2.2.2.2.2.2.2.2.2.2.2.2.2.2.2.2.2.2.2.2.2.2.2.2.2.2.2.2.1 z.2.2.2.2.2.2.2.2.2.2.2.2.2.2.2.2.2.2.2.2.2.2.2.2.2.2.2.2.2.2.2.2.2.1 z.2.2.2.2.2.2.2.2.2.2.2.2.2.2.2.2.2.2.2.2.2.2.2.2.2.2.2.2.2.2.2.2.2.2.1 z.2.2.2.2.2.2.2.2.2.2.2.2.2.2.2.2.2.2.2.2.2.2.2.2.2.2.2.2.2.2.2.2.2.2.2.1 z.2.2.2.2.2.2.2.2.2.2.2.2.2.2.2.2.2.2.2.2.2.2.2.2.2.2.2.2.2.2.2.2.2.2.2.2.1 z.2.2.2.2.2.2.2.2.2.2.2.2.2.2.2.2.2.2.2.2.2.2.2.2.2.2.2.2.2.2.2.2.2.2.2.2.2.1 z.2.2.2.2.2.2.2.2.2.2.2.2.2.2.2.2.2.2.2.2.2.2.2.2.2.2.2.2.2.2.2.2.2.2.2.2.2.2.1 z.2.2.2.2.2.2.2.2.2.2.2.2.2.2.2.2.2.2.2.2.2.2.2.2.2.2.2.2.2.2.2.2.2.2.2.2.2.2.2.1 z.2.2.2.2.2.2.2.2.2.2.2.2.2.2.2.2.2.2.2.2.2.2.2.2.2.2.2.2.2.2.2.2.2.2.2.2.2.2.2.2.1 z.2.2.2.2.2.2.2.2.2.2.2.2.2.2.2.2.2.2.2.2.2.2.2.2.2.2.2.2.2.2.2.2.2.2.2.2.2.2.2.2.2.1 z.2.2.2.2.2.2.2.2.2.2.2.2.2.2.2.2.2.2.2.2.2.2.2.2.2.2.2.2.2.2.2.2.2.2.2.2.2.2.2.2.2.2.1 z.2.2.2.2.2.2.2.2.2.2.2.2.2.2.2.2.2.2.2.2.2.2.2.2.2.2.2.2.2.2.2.2.2.2.2.2.2.2.2.2.2.2.2.1 z.2.2.2.2.2.2.2.2.2.2.2.2.2.2.2.2.2.2.2.2.2.2.2.2.2.2.2.2.2.2.2.2.2.2.2.2.2.2.2.2.2.2.2.2.1 z.2.2.2.2.2.2.2.2.2.2.2.2.2.2.2.2.2.2.2.2.2.2.2.2.2.2.2.2.2.2.2.2.2.2.2.2.2.2.2.2.2.2.2.2.2.1 z.2.2.2.2.2.2.2.2.2.2.2.2.2.2.2.2.2.2.2.2.2.2.2.2.2.2.2.2.2.2.2.2.2.2.2.2.2.2.2.2.2.2.2.2.2.2.1 z.2.2.2.2.2.2.2.2.2.2.2.2.2.2.2.2.2.2.2.2.2.2.2.2.2.2.2.2.2.2.2.2.2.2.2.2.2.2.2.2.2.2.2.2.2.2.2.1 z.2.2.2.2.2.2.2.2.2.2.2.2.2.2.2.2.2.2.2.2.2.2.2.2.2.2.2.2.2.2.2.2.2.2.2.2.2.2.2.2.2.2.2.2.2.2.2.2.1 z.2.2.2.2.2.2.2.2.2.2.2.2.2.2.2.2.2.2.2.2.2.2.2.2.2.2.2.2.2.2.2.2.2.2.2.2.2.2.2.2.2.2.2.2.2.2.2.2.2.1 z.2.2.2.2.2.2.2.2.2.2.2.2.2.2.2.2.2.2.2.2.2.2.2.2.2.2.2.2.2.2.2.2.2.2.2.2.2.2.2.2.2.2.2.2.2.2.2.2.2.2.1 z.2.2.2.2.2.2.2.2.2.2.2.2.2.2.2.2.2.2.2.2.2.2.2.2.2.2.2.2.2.2.2.2.2.2.2.2.2.2.2.2.2.2.2.2.2.2.2.2.2.2.2.1 z.2.2.2.2.2.2.2.2.2.2.2.2.2.2.2.2.2.2.2.2.2.2.2.2.2.2.2.2.2.2.2.2.2.2.2.2.2.2.2.2.2.2.2.2.2.2.2.2.2.2.2.2.1 z.2.2.2.2.2.2.2.2.2.2.2.2.2.2.2.2.2.2.2.2.2.2.2.2.2.2.2.2.2.2.2.2.2.2.2.2.2.2.2.2.2.2.2.2.2.2.2.2.2.2.2.2.2.1 z.2.2.2.2.2.2.2.2.2.2.2.2.2.2.2.2.2.2.2.2.2.2.2.2.2.2.2.2.2.2.2.2.2.2.2.2.2.2.2.2.2.2.2.2.2.2.2.2.2.2.2.2.2.2.1 z.2.2.2.2.2.2.2.2.2.2.2.2.2.2.2.2.2.2.2.2.2.2.2.2.2.2.2.2.2.2.2.2.2.2.2.2.2.2.2.2.2.2.2.2.2.2.2.2.2.2.2.2.2.2.2.1 z.2.2.2.2.2.2.2.2.2.2.2.2.2.2.2.2.2.2.2.2.2.2.2.2.2.2.2.2.2.2.2.2.2.2.2.2.2.2.2.2.2.2.2.2.2.2.2.2.2.2.2.2.2.2.2.2.1 z.2.2.2.2.2.2.2.2.2.2.2.2.2.2.2.2.2.2.2.2.2.2.2.2.2.2.2.2.2.2.2.2.2.2.2.2.2.2.2.2.2.2.2.2.2.2.2.2.2.2.2.2.2.2.2.2.2.1 z.2.2.2.2.2.2.2.2.2.2.2.2.2.2.2.2.2.2.2.2.2.2.2.2.2.2.2.2.2.2.2.2.2.2.2.2.2.2.2.2.2.2.2.2.2.2.2.2.2.2.2.2.2.2.2.2.2.2.1 z.2.2.2.2.2.2.2.2.2.2.2.2.2.2.2.2.2.2.2.2.2.2.2.2.2.2.2.2.2.2.2.2.2.2.2.2.2.2.2.2.2.2.2.2.2.2.2.2.2.2.2.2.2.2.2.2.2.2.2.1 z.2.2.2.2.2.2.2.2.2.2.2.2.2.2.2.2.2.2.2.2.2.2.2.2.2.2.2.2.2.2.2.2.2.2.2.2.2.2.2.2.2.2.2.2.2.2.2.2.2.2.2.2.2.2.2.2.2.2.2.2.1 z.2.2.2.2.2.2.2.2.2.2.2.2.2.2.2.2.2.2.2.2.2.2.2.2.2.2.2.2.2.2.2.2.2.2.2.2.2.2.2.2.2.2.2.2.2.2.2.2.2.2.2.2.2.2.2.2.2.2.2.2.2
noncomputable def zzc : zzT := @Classical.epsilon zzT ⟨(zw, cN, cN, cN, cN, cN, cN, cN, cN, cN, cN, cN, cN, cN, cN, cN, cN, cN, cN, cN, zs, cN, cN, cN, cN, cN, cN, cN, cN, cN, cN, cN, cN, cN, cN, cN, cN, cN, cN, cN, cN, cN, cN, cN, cN, cN, cN, cN, cN, cN, cN, cN, cN, cN, cN, cN, cN, cN, cN, cN, cN, cN)⟩ fun z => ¬ zzS z
theorem zzcore : zzS zzc := by
 k_with "e_q" =>
  show zzQ _ _ _ _ _ _ _ _ _ _ _ _ _ _ _ _ _ _ _ _ _ _ _ _ _ _ _ _ _ _ _ _ _ _ _ _ _ _ _ _ _ _ _ _ _ _ _ _ _ _ _ _ _ _ _ _ _ _ _ _ _ _
  generalize zzc.1 = w; generalize zzc.2.1 = name; generalize zzc.2.2.1 = scope; generalize zzc.2.2.2.1 = body; generalize zzc.2.2.2.2.1 = L; generalize zzc.2.2.2.2.2.1 = fa; generalize zzc.2.2.2.2.2.2.1 = P; generalize zzc.2.2.2.2.2.2.2.1 = d; generalize zzc.2.2.2.2.2.2.2.2.1 = r; generalize zzc.2.2.2.2.2.2.2.2.2.1 = b; generalize zzc.2.2.2.2.2.2.2.2.2.2.1 = db; generalize zzc.2.2.2.2.2.2.2.2.2.2.2.1 = gt; generalize zzc.2.2.2.2.2.2.2.2.2.2.2.2.1 = dg; generalize zzc.2.2.2.2.2.2.2.2.2.2.2.2.2.1 = mk; generalize zzc.2.2.2.2.2.2.2.2.2.2.2.2.2.2.1 = dm; generalize zzc.2.2.2.2.2.2.2.2.2.2.2.2.2.2.2.1 = cc; generalize zzc.2.2.2.2.2.2.2.2.2.2.2.2.2.2.2.2.1 = B; generalize zzc.2.2.2.2.2.2.2.2.2.2.2.2.2.2.2.2.2.1 = h0; generalize zzc.2.2.2.2.2.2.2.2.2.2.2.2.2.2.2.2.2.2.1 = g; generalize zzc.2.2.2.2.2.2.2.2.2.2.2.2.2.2.2.2.2.2.2.1 = h; generalize zzc.2.2.2.2.2.2.2.2.2.2.2.2.2.2.2.2.2.2.2.2.1 = s; generalize zzc.2.2.2.2.2.2.2.2.2.2.2.2.2.2.2.2.2.2.2.2.2.1 = tk; generalize zzc.2.2.2.2.2.2.2.2.2.2.2.2.2.2.2.2.2.2.2.2.2.2.1 = m; generalize zzc.2.2.2.2.2.2.2.2.2.2.2.2.2.2.2.2.2.2.2.2.2.2.2.1 = es; generalize zzc.2.2.2.2.2.2.2.2.2.2.2.2.2.2.2.2.2.2.2.2.2.2.2.2.1 = es2; generalize zzc.2.2.2.2.2.2.2.2.2.2.2.2.2.2.2.2.2.2.2.2.2.2.2.2.2.1 = es3; generalize zzc.2.2.2.2.2.2.2.2.2.2.2.2.2.2.2.2.2.2.2.2.2.2.2.2.2.2.1 = k; generalize zzc.2.2.2.2.2.2.2.2.2.2.2.2.2.2.2.2.2.2.2.2.2.2.2.2.2.2.2.1 = k2; generalize zzc.2.2.2.2.2.2.2.2.2.2.2.2.2.2.2.2.2.2.2.2.2.2.2.2.2.2.2.2.1 = k3; generalize zzc.2.2.2.2.2.2.2.2.2.2.2.2.2.2.2.2.2.2.2.2.2.2.2.2.2.2.2.2.2.1 = kc; generalize zzc.2.2.2.2.2.2.2.2.2.2.2.2.2.2.2.2.2.2.2.2.2.2.2.2.2.2.2.2.2.2.1 = kp; generalize zzc.2.2.2.2.2.2.2.2.2.2.2.2.2.2.2.2.2.2.2.2.2.2.2.2.2.2.2.2.2.2.2.1 = cs; generalize zzc.2.2.2.2.2.2.2.2.2.2.2.2.2.2.2.2.2.2.2.2.2.2.2.2.2.2.2.2.2.2.2.2.1 = o; generalize zzc.2.2.2.2.2.2.2.2.2.2.2.2.2.2.2.2.2.2.2.2.2.2.2.2.2.2.2.2.2.2.2.2.2.1 = ro; generalize zzc.2.2.2.2.2.2.2.2.2.2.2.2.2.2.2.2.2.2.2.2.2.2.2.2.2.2.2.2.2.2.2.2.2.2.1 = c1; generalize zzc.2.2.2.2.2.2.2.2.2.2.2.2.2.2.2.2.2.2.2.2.2.2.2.2.2.2.2.2.2.2.2.2.2.2.2.1 = c2; generalize zzc.2.2.2.2.2.2.2.2.2.2.2.2.2.2.2.2.2.2.2.2.2.2.2.2.2.2.2.2.2.2.2.2.2.2.2.2.1 = vw; generalize zzc.2.2.2.2.2.2.2.2.2.2.2.2.2.2.2.2.2.2.2.2.2.2.2.2.2.2.2.2.2.2.2.2.2.2.2.2.2.1 = ns; generalize zzc.2.2.2.2.2.2.2.2.2.2.2.2.2.2.2.2.2.2.2.2.2.2.2.2.2.2.2.2.2.2.2.2.2.2.2.2.2.2.1 = a0; generalize zzc.2.2.2.2.2.2.2.2.2.2.2.2.2.2.2.2.2.2.2.2.2.2.2.2.2.2.2.2.2.2.2.2.2.2.2.2.2.2.2.1 = a1; generalize zzc.2.2.2.2.2.2.2.2.2.2.2.2.2.2.2.2.2.2.2.2.2.2.2.2.2.2.2.2.2.2.2.2.2.2.2.2.2.2.2.2.1 = a2; generalize zzc.2.2.2.2.2.2.2.2.2.2.2.2.2.2.2.2.2.2.2.2.2.2.2.2.2.2.2.2.2.2.2.2.2.2.2.2.2.2.2.2.2.1 = a3; generalize zzc.2.2.2.2.2.2.2.2.2.2.2.2.2.2.2.2.2.2.2.2.2.2.2.2.2.2.2.2.2.2.2.2.2.2.2.2.2.2.2.2.2.2.1 = a4; generalize zzc.2.2.2.2.2.2.2.2.2.2.2.2.2.2.2.2.2.2.2.2.2.2.2.2.2.2.2.2.2.2.2.2.2.2.2.2.2.2.2.2.2.2.2.1 = a5; generalize zzc.2.2.2.2.2.2.2.2.2.2.2.2.2.2.2.2.2.2.2.2.2.2.2.2.2.2.2.2.2.2.2.2.2.2.2.2.2.2.2.2.2.2.2.2.1 = a6; generalize zzc.2.2.2.2.2.2.2.2.2.2.2.2.2.2.2.2.2.2.2.2.2.2.2.2.2.2.2.2.2.2.2.2.2.2.2.2.2.2.2.2.2.2.2.2.2.1 = a7; generalize zzc.2.2.2.2.2.2.2.2.2.2.2.2.2.2.2.2.2.2.2.2.2.2.2.2.2.2.2.2.2.2.2.2.2.2.2.2.2.2.2.2.2.2.2.2.2.2.1 = a8; generalize zzc.2.2.2.2.2.2.2.2.2.2.2.2.2.2.2.2.2.2.2.2.2.2.2.2.2.2.2.2.2.2.2.2.2.2.2.2.2.2.2.2.2.2.2.2.2.2.2.1 = a9; generalize zzc.2.2.2.2.2.2.2.2.2.2.2.2.2.2.2.2.2.2.2.2.2.2.2.2.2.2.2.2.2.2.2.2.2.2.2.2.2.2.2.2.2.2.2.2.2.2.2.2.1 = a10; generalize zzc.2.2.2.2.2.2.2.2.2.2.2.2.2.2.2.2.2.2.2.2.2.2.2.2.2.2.2.2.2.2.2.2.2.2.2.2.2.2.2.2.2.2.2.2.2.2.2.2.2.1 = a11; generalize zzc.2.2.2.2.2.2.2.2.2.2.2.2.2.2.2.2.2.2.2.2.2.2.2.2.2.2.2.2.2.2.2.2.2.2.2.2.2.2.2.2.2.2.2.2.2.2.2.2.2.2.1 = o0; generalize zzc.2.2.2.2.2.2.2.2.2.2.2.2.2.2.2.2.2.2.2.2.2.2.2.2.2.2.2.2.2.2.2.2.2.2.2.2.2.2.2.2.2.2.2.2.2.2.2.2.2.2.2.1 = o1; generalize zzc.2.2.2.2.2.2.2.2.2.2.2.2.2.2.2.2.2.2.2.2.2.2.2.2.2.2.2.2.2.2.2.2.2.2.2.2.2.2.2.2.2.2.2.2.2.2.2.2.2.2.2.2.1 = o2; generalize zzc.2.2.2.2.2.2.2.2.2.2.2.2.2.2.2.2.2.2.2.2.2.2.2.2.2.2.2.2.2.2.2.2.2.2.2.2.2.2.2.2.2.2.2.2.2.2.2.2.2.2.2.2.2.1 = o3; generalize zzc.2.2.2.2.2.2.2.2.2.2.2.2.2.2.2.2.2.2.2.2.2.2.2.2.2.2.2.2.2.2.2.2.2.2.2.2.2.2.2.2.2.2.2.2.2.2.2.2.2.2.2.2.2.2.1 = o4; generalize zzc.2.2.2.2.2.2.2.2.2.2.2.2.2.2.2.2.2.2.2.2.2.2.2.2.2.2.2.2.2.2.2.2.2.2.2.2.2.2.2.2.2.2.2.2.2.2.2.2.2.2.2.2.2.2.2.1 = o5; generalize zzc.2.2.2.2.2.2.2.2.2.2.2.2.2.2.2.2.2.2.2.2.2.2.2.2.2.2.2.2.2.2.2.2.2.2.2.2.2.2.2.2.2.2.2.2.2.2.2.2.2.2.2.2.2.2.2.2.1 = o6; generalize zzc.2.2.2.2.2.2.2.2.2.2.2.2.2.2.2.2.2.2.2.2.2.2.2.2.2.2.2.2.2.2.2.2.2.2.2.2.2.2.2.2.2.2.2.2.2.2.2.2.2.2.2.2.2.2.2.2.2.1 = o7; generalize zzc.2.2.2.2.2.2.2.2.2.2.2.2.2.2.2.2.2.2.2.2.2.2.2.2.2.2.2.2.2.2.2.2.2.2.2.2.2.2.2.2.2.2.2.2.2.2.2.2.2.2.2.2.2.2.2.2.2.2.1 = o8; generalize zzc.2.2.2.2.2.2.2.2.2.2.2.2.2.2.2.2.2.2.2.2.2.2.2.2.2.2.2.2.2.2.2.2.2.2.2.2.2.2.2.2.2.2.2.2.2.2.2.2.2.2.2.2.2.2.2.2.2.2.2.1 = o9; generalize zzc.2.2.2.2.2.2.2.2.2.2.2.2.2.2.2.2.2.2.2.2.2.2.2.2.2.2.2.2.2.2.2.2.2.2.2.2.2.2.2.2.2.2.2.2.2.2.2.2.2.2.2.2.2.2.2.2.2.2.2.2.1 = o10; generalize zzc.2.2.2.2.2.2.2.2.2.2.2.2.2.2.2.2.2.2.2.2.2.2.2.2.2.2.2.2.2.2.2.2.2.2.2.2.2.2.2.2.2.2.2.2.2.2.2.2.2.2.2.2.2.2.2.2.2.2.2.2.2 = o11
  intro hb X G F N hc1 hc2 hK hR hok hrd hbd hmd hvw hit hnum hI hSm hfold
  refine hb.begin (P := fun name scope body => wpAny (model Challenge.rw_np0089_01.row.prog w) (callerA.deeper (LawEnv name scope L fa)) (execs (body.drop 4) (LawEnv name scope L fa)) (fun fl s' => LawEnd B L s (flv fl) s') (fun _ _ => False) { s with heap := h, toks := tk }) (by k_is) fun hb' => ?_
  dsimp only [List.drop]
  simp only [lawL, List.cons_append, List.nil_append] at N
  have SB := X.S
  have hBL := X.le
  have hlt := X.lt
  have S : Std w g := SB.keeps G.base
  have zX := Std.X S
  obtain ⟨zp, zlo, zme, zmg, zmb, zT⟩ := Std.T S
  have hb1 : BlkAt ⟨475, 20, 475, 49⟩ := .mk
  have hb2 : BlkAt ⟨475, 51, 475, 82⟩ := .mk
  have hU1 : UnpP ⟨475, 20, 475, 49⟩ vw false := .mk
  have hU2 : UnpP ⟨475, 51, 475, 82⟩ vw true := .mk
  k_with "m_hit" => ((with_reducible rename News _ _ _ _ => lN'); exact fun p hp => (hit p hp).elim fun k hm => News.isList (News.part lN' (by lcg_sub)) hm)
  k_with "m_fold" => (k_extra "FN"; refine CallsT.useK [(d, o), (r, ro), (b, instObj 631 db), (db, dictOf es k), (gt, instObj 525 dg), (dg, dictOf es2 k2), (mk, instObj 223 dm), (dm, dictOf es3 k3), (cc, listOf cs.toArray kc), (L + 1, c1), (L + 2, c2), (766, tabObj #[]), (761, tabObj #[]), (754, tabObj #[])] (by assumption) (by exact lF') (by exact lN') (by k_mem) (by rfl) (by decide) (by lcg_sub) (by intro p hp; simp only [List.mem_cons, List.not_mem_nil, or_false] at hp; (repeat' (rcases hp with rfl | hp)); all_goals first | (subst hp; walk_at "m_keep") | walk_at "m_keep") (fun D hBD hDt hN => hfold D (SB.keeps hBD) (X.C4.keeps hBD) hDt ⟨_, hN (_, listOf _ _) (by k_mem) list_not_tab, rfl, _, rfl⟩ (hnum D fun q hq ne => hN q ((by lcg_sub : ∀ p ∈ _, p ∈ _) q hq) ne) ⟨_, hN (_, listOf _ _) (by k_mem) list_not_tab, rfl, _, rfl⟩ hI hSm) (fun zg' zv zh' ztk' zps zp' zG' zF' zN' => ?_); subst zp'; (have zS' := SB.keeps (Gr.base zG')); (clear zX zT); (have zX := Std.X zS'); (obtain ⟨zp, zlo, zme, zmg, zmb, zT⟩ := Std.T zS'))
  k_with "m_seg" => ((with_reducible show wpAny _ _ (execs (Stmt.Assign [Expr.Tuple _ _ ⟨478, 4, 478, 14⟩] _ _ :: _) _) _ _ _); k_extra "FN"; exact segD hb' X (by assumption) (by exact lF') (News.part lN' (by lcg_sub)) hc1 hc2 hK hR hok hrd hbd hmd)
  k_steps
 k_extra "e_Q"
end segC_e
theorem segC {w : World} {name : Str} {scope : Scope} {body : List Stmt} {L fa P d r b db gt dg mk dm cc : Addr} {B h0 g h : Heap} {s : Shared} {tk : Nat} {m : Str → Option Value} {es es2 es3 : List DictEntry} {k k2 k3 kc kp : Nat} {cs : List Value} {o ro c1 c2 : Obj} {vw : List Two} {ns : List Int} {a0 a1 a2 a3 a4 a5 a6 a7 a8 a9 a10 a11 : Addr} {o0 o1 o2 o3 o4 o5 o6 o7 o8 o9 o10 o11 : Obj}
    (hb : LawIs w name scope body) (X : LawC w B L) (G : Gr B h0 g []) (F : Fr g L h fun y => if y = Str.ofString "pairs" then some (.ref P) else m y)
    (N : News g L h ((P, listOf (itemsOf vw).toArray kp) :: (lawL L d r b db gt dg mk dm cc es es2 es3 k k2 k3 kc cs o ro c1 c2 #[] #[] #[] ++ [(a0, o0), (a1, o1), (a2, o2), (a3, o3), (a4, o4), (a5, o5), (a6, o6), (a7, o7), (a8, o8), (a9, o9), (a10, o10), (a11, o11)]))) (hc1 : c1.data = .cell (some (.ref d))) (hc2 : c2.data = .cell (some (.ref b))) (hK : DeckO o) (hR : RowsO w 4 ro) (hok : BufOk gt mk cc r es es2 es3 cs)
    (hrd : @Ne Nat r d) (hbd : ∀ p ∈ bufE b db gt dg mk dm cc es es2 es3 k k2 k3 kc cs, @Ne Nat p.1 d ∧ @Ne Nat p.1 r) (hmd : ∀ a ∈ [L + 1, L + 2, 766, 761, 754, 749], @Ne Nat a d ∧ @Ne Nat a r)
    (hvw : vw.length ≤ 4) (hit : ∀ p ∈ vw, ∃ k, (p.1, listOf #[p.2.1, p.2.2] k) ∈ ([(a0, o0), (a1, o1), (a2, o2), (a3, o3), (a4, o4), (a5, o5), (a6, o6), (a7, o7), (a8, o8), (a9, o9), (a10, o10), (a11, o11)] : List (Addr × Obj))) (hnum : ∀ D : Heap, (∀ q ∈ ([(a0, o0), (a1, o1), (a2, o2), (a3, o3), (a4, o4), (a5, o5), (a6, o6), (a7, o7), (a8, o8), (a9, o9), (a10, o10), (a11, o11)] : List (Addr × Obj)), q.2 ≠ tabObj #[] → D.get? q.1 = some q.2) → NumsAt D (partsOf false vw) ns) (hI : IntsAre (partsOf true vw) ns) (hSm : Sm ns)
    (hfold : ∀ D : Heap, Std w D → CodeHd D 751 749 → D.get? 749 = none → ∀ {l l2 : Addr} {vs us : List Value} {ns : List Int}, D.IsList l vs.toArray → NumsAt D vs ns → D.IsList l2 us.toArray → IntsAre us ns → Sm ns → CallsT w 350 (.ref 752) [.ref l, .ref l2] D 749 (fun v _ => v = .bool true)) : wpAny (model Challenge.rw_np0089_01.row.prog w) (callerA.deeper (LawEnv name scope L fa)) (execs (body.drop 4) (LawEnv name scope L fa)) (fun fl s' => LawEnd B L s (flv fl) s') (fun _ _ => False) { s with heap := h, toks := tk } := epsU (P := segC_e.zzS) (by with_unfolding_all exact segC_e.zzcore) (w, name, scope, body, L, fa, P, d, r, b, db, gt, dg, mk, dm, cc, B, h0, g, h, s, tk, m, es, es2, es3, k, k2, k3, kc, kp, cs, o, ro, c1, c2, vw, ns, a0, a1, a2, a3, a4, a5, a6, a7, a8, a9, a10, a11, o0, o1, o2, o3, o4, o5, o6, o7, o8, o9, o10, o11) hb X G F N hc1 hc2 hK hR hok hrd hbd hmd hvw hit hnum hI hSm hfold
end Mine.Internal
namespace Mine.Internal
theorem num_elt2 {w : World} {B hh0 g h : Heap} {l : List Env} {name : Str} {scope : Scope} {L a : Addr} {cd : Value} {cl : List (Str × Addr)} {s0 : Shared} {tk : Nat} {m : Str → Option Value} {all : List (Addr × Obj)} {n c : Nat} {f : Value} {args : List Value} {A : Around} {E : Value → Shared → Prop} {d r : Addr} {o ro : Obj} {bufs : List (Addr × Obj)} (G : Gr B hh0 g l) (F : Fr g L h m) (N : News g L h all) (hfr : A.frames = some (envX name scope L a cd cl :: l)) (hk : scope.kind ≠ .module)
    (sub : ∀ p ∈ (d, o) :: (r, ro) :: bufs, p ∈ all) (C : CallsG w n f args B ((d, o) :: (r, ro) :: bufs) (fun _ => True) (NumP w c d r bufs))
    (hh : autoParam (A.handled = none) auR) (hd : autoParam (A.depth ≤ n) auL) (hu : autoParam (A.units ≤ 8 * n) auL) :
    wpAny (model Challenge.rw_np0089_01.row.prog w) A (call f args) (RetG (hideAll h (adr ((d, o) :: (r, ro) :: bufs))) (NumP w c d r bufs) s0) E { s0 with heap := h, toks := tk } :=
  wpAny_mono (num_elt (s := { s0 with heap := h, toks := tk }) G F N hfr hk sub C hh hd hu) (fun _ _ r => r) fun _ _ e => e
noncomputable def NRow.two (y : NRow) : Two := (y.D, y.own, .int y.n y.t)
theorem items_rows (rs : List NRow) : itemsOf (rs.map NRow.two) = rs.map fun y => Value.ref y.D := by
  simp [itemsOf, NRow.two, Function.comp_def]
theorem ints_rows : ∀ rs : List NRow, IntsAre (partsOf true (rs.map NRow.two)) (rs.map (·.n))
  | [] => .nil
  | y :: rs => IntsAre.cons y.n y.t (ints_rows rs)
theorem nums_rows {D : Heap} : ∀ rs : List NRow, (∀ y ∈ rs, NumAt D y.own y.n) → NumsAt D (partsOf false (rs.map NRow.two)) (rs.map (·.n)) := fun rs hr => by
  refine ⟨by simp [partsOf], fun i v n a b => ?_⟩
  simp only [partsOf, List.map_map, List.getElem?_map, Option.map_eq_some_iff] at a b
  obtain ⟨y, e1, e2⟩ := a
  obtain ⟨y', e3, e4⟩ := b
  rw [e1] at e3
  cases e3
  rw [← e2, ← e4]
  exact hr y (List.mem_of_getElem? e1)
theorem segC_rows {w : World} {name : Str} {scope : Scope} {body : List Stmt} {L fa P d r b db gt dg mk dm cc : Addr} {B h0 g h : Heap} {s : Shared} {tk : Nat} {m : Str → Option Value} {es es2 es3 : List DictEntry} {k k2 k3 kc : Nat} {cs : List Value} {o ro c1 c2 : Obj} (rs : List NRow)
    (hb : LawIs w name scope body) (X : LawC w B L) (G : Gr B h0 g []) (F : Fr g L h fun y => if y = Str.ofString "pairs" then some (.ref P) else m y)
    (N : News g L h ((P, LCg.lst (rs.map fun y => Value.ref y.D)) :: ((d, o) :: (r, ro) :: (bufE b db gt dg mk dm cc es es2 es3 k k2 k3 kc cs ++ [(L + 1, c1), (L + 2, c2), (766, tabObj #[]), (761, tabObj #[]), (754, tabObj #[]), (749, tabObj #[])]) ++ rs.flatMap NRow.ents))) (hc1 : c1.data = .cell (some (.ref d))) (hc2 : c2.data = .cell (some (.ref b))) (hK : DeckO o) (hR : RowsO w 4 ro) (hok : BufOk gt mk cc r es es2 es3 cs)
    (hrd : @Ne Nat r d) (hbd : ∀ p ∈ bufE b db gt dg mk dm cc es es2 es3 k k2 k3 kc cs, @Ne Nat p.1 d ∧ @Ne Nat p.1 r) (hmd : ∀ a ∈ [L + 1, L + 2, 766, 761, 754, 749], @Ne Nat a d ∧ @Ne Nat a r)
    (hlen : rs.length ≤ 4) (hrs : ∀ y ∈ rs, y.ok)
    (hfold : ∀ D : Heap, Std w D → CodeHd D 751 749 → D.get? 749 = none → ∀ {l l2 : Addr} {vs us : List Value} {ns : List Int}, D.IsList l vs.toArray → NumsAt D vs ns → D.IsList l2 us.toArray → IntsAre us ns → Sm ns → CallsT w 350 (.ref 752) [.ref l, .ref l2] D 749 (fun v _ => v = .bool true)) :
    wpAny (model Challenge.rw_np0089_01.row.prog w) (callerA.deeper (LawEnv name scope L fa)) (execs (body.drop 4) (LawEnv name scope L fa)) (fun fl s' => LawEnd B L s (flv fl) s') (fun _ _ => False) { s with heap := h, toks := tk } := by
  have hE : (rs.flatMap NRow.ents).length ≤ 12 := by
    have : ∀ l : List NRow, (l.flatMap NRow.ents).length = 3 * l.length := fun l => by
      induction l with
      | nil => rfl
      | cons y l ih => rw [List.flatMap_cons, List.length_append, ih]; simp [NRow.ents]; lia
    rw [this]; lia
  obtain ⟨a0, o0, a1, o1, a2, o2, a3, o3, a4, o4, a5, o5, a6, o6, a7, o7, a8, o8, a9, o9, a10, o10, a11, o11, hp1, hp2⟩ := pad12 (rs.flatMap NRow.ents) (gt, instObj 525 dg) hE
  have hin : ∀ y ∈ rs, ∀ p ∈ y.ents, p ∈ ([(a0, o0), (a1, o1), (a2, o2), (a3, o3), (a4, o4), (a5, o5), (a6, o6), (a7, o7), (a8, o8), (a9, o9), (a10, o10), (a11, o11)] : List (Addr × Obj)) := fun y hy p hp => hp1 p (List.mem_flatMap.mpr ⟨y, hy, hp⟩)
  refine segC (vw := rs.map NRow.two) (ns := rs.map (·.n)) (kp := (rs.map fun y => Value.ref y.D).length) (P := P) (m := m) (o := o) (ro := ro) hb X G F (News.part N fun p hp => ?_) hc1 hc2 hK hR hok hrd hbd hmd (by simpa using hlen) (fun p hp => ?_) (fun D hq => nums_rows rs fun y hy => (hrs y hy).1.atN (fun ne => hq (y.a, y.ao) (hin y hy _ (.tail _ (.head _))) ne) (fun ne => hq (y.e, y.eo) (hin y hy _ (.tail _ (.tail _ (.head _)))) ne)) (ints_rows rs) ⟨by simpa using hlen, fun n hn => ?_⟩ hfold
  · rcases List.mem_cons.mp hp with rfl | hp
    · rw [items_rows]; exact List.mem_cons_self ..
    · refine List.mem_cons_of_mem _ ?_
      rcases List.mem_append.mp hp with hp | hp
      · exact List.mem_append_left _ hp
      · rcases hp2 p hp with hp | rfl
        · exact List.mem_append_right _ hp
        · exact List.mem_append_left _ (by simp)
  · obtain ⟨y, hy, rfl⟩ := List.mem_map.mp hp
    exact ⟨y.k, hin y hy _ (.head _)⟩
  · obtain ⟨y, hy, rfl⟩ := List.mem_map.mp hn
    exact (hrs y hy).2
theorem segB {w : World} {name : Str} {scope : Scope} {body : List Stmt} {L fa d r b db gt dg mk dm cc : Addr} {B h0 g h : Heap} {s : Shared} {tk : Nat} {m : Str → Option Value} {es es2 es3 : List DictEntry} {k k2 k3 kc : Nat} {cs : List Value} {o ro c1 c2 : Obj} (hb : LawIs w name scope body) (X : LawC w B L) (G : Gr B h0 g []) (F : Fr g L h m)
    (N : News g L h (lawL L d r b db gt dg mk dm cc es es2 es3 k k2 k3 kc cs o ro c1 c2 #[] #[] #[])) (hc1 : c1.data = .cell (some (.ref d))) (hc2 : c2.data = .cell (some (.ref b))) (hK : DeckO o) (hR : RowsO w 0 ro) (hok : BufOk gt mk cc r es es2 es3 cs)
    (hrd : @Ne Nat r d) (hbd : ∀ p ∈ bufE b db gt dg mk dm cc es es2 es3 k k2 k3 kc cs, @Ne Nat p.1 d ∧ @Ne Nat p.1 r) (hmd : ∀ a ∈ [L + 1, L + 2, 766, 761, 754, 749], @Ne Nat a d ∧ @Ne Nat a r)
    (hfold : ∀ D : Heap, Std w D → CodeHd D 751 749 → D.get? 749 = none → ∀ {l l2 : Addr} {vs us : List Value} {ns : List Int}, D.IsList l vs.toArray → NumsAt D vs ns → D.IsList l2 us.toArray → IntsAre us ns → Sm ns → CallsT w 350 (.ref 752) [.ref l, .ref l2] D 749 (fun v _ => v = .bool true)) :
    wpAny (model Challenge.rw_np0089_01.row.prog w) (callerA.deeper (LawEnv name scope L fa)) (execs (body.drop 3) (LawEnv name scope L fa)) (fun fl s' => LawEnd B L s (flv fl) s') (fun _ _ => False) { s with heap := h, toks := tk } := by
 k_with "e_q" =>
  refine hb.begin (P := fun name scope body => wpAny (model Challenge.rw_np0089_01.row.prog w) (callerA.deeper (LawEnv name scope L fa)) (execs (body.drop 3) (LawEnv name scope L fa)) (fun fl s' => LawEnd B L s (flv fl) s') (fun _ _ => False) { s with heap := h, toks := tk }) (by k_is) fun hb' => ?_
  dsimp only [List.drop]
  dsimp only [lawL] at N
  have SB := X.S
  have hBL := X.le
  have hlt := X.lt
  have S : Std w g := SB.keeps G.base
  have zX := Std.X S
  obtain ⟨zp, zlo, zme, zmg, zmb, zT⟩ := Std.T S
  have hall := law_apart (c1 := c1) (c2 := c2) (o1 := tabObj #[]) (o2 := tabObj #[]) (o3 := tabObj #[]) (o4 := tabObj #[]) hbd hmd
  have hq1 := fun p hp => (hall p hp).1
  simp only [bufE, List.cons_append, List.nil_append] at hq1
  k_with "m_pos" => decide
  k_with "m_log" => decide
  k_with "m_num" => (k_extra "FN"; (try dsimp only); (have hC := num_law SB (by assumption) lN' (by lcg_sub) (by with_reducible assumption) (by with_reducible assumption) (by lia) hok hrd hbd); exact num_elt2 (by assumption) (by exact lF') (by exact lN') (by rfl) (by decide) (by lcg_sub) hC)
  k_with "m_src" => (k_extra "FN"; (refine LCg.CompSrc.range (n := zr.toNat) (news := (d, _) :: (r, ro) :: (bufE b db gt dg mk dm cc es es2 es3 k k2 k3 kc cs ++ [(L + 1, c1), (L + 2, c2), (766, tabObj #[]), (761, tabObj #[]), (754, tabObj #[]), (749, tabObj #[])])) (by rfl) (by exact lF') (News.part lN' (by lcg_sub)) (by assumption) (range_facts (by lia) (by lia)).1 (range_facts (by lia) (by lia)).2 (by rw [PySem.sizeLine_eq]; lia) (fun zg9 => comp_nums hrd.symm hall (by lia) (fun zi zo' zro' zv zI zoI zC zoC zD zm2 zh9 ztk9 zys zi4 zNs zxv zK' zR' zF' zN' => ?_) (by with_reducible assumption) hR (fun zrs zo' zro' zlen zrok zK' zR' zD zh9 ztk9 zF' zN' zoff => segC_rows zrs hb' X (by assumption) zF' zN' hc1 hc2 zK' (zR'.mono (by lia)) hok hrd hbd hmd (by lia) (fun y hy => (zrok y hy).1) hfold))); (simp only [bufE, List.cons_append, List.nil_append] at zN'); (try dsimp only); (try k_fold))
  k_steps
 k_extra "e_Q"
end Mine.Internal
namespace Mine.Internal
noncomputable abbrev deckF (c : Int) : Int := Int.fmod (if c < 0 then -c else c) (10 ^ 30)
theorem deck_calls {w : World} {h : Heap} (S : Std w h) {l : Addr} {vs : List Value} {ns : List Int} (hl : h.IsList l vs.toArray) (I : IntsAre vs ns) (hlen : vs.length ≤ 63) : Calls w 370 (.ref 702) [.ref l] h (MadeInts h ((ns.take 16).map deckF)) := by
 k_with "e_q" =>
  k_with "m_size" => (have zq := ints_len (by assumption : IntsAre _ (List.take 16 ns)); simp only [List.length_take] at zq; omega)
  k_with "m_elt" => (obtain ⟨zb9, zt9, zv9, zn9⟩ := ints_at (by assumption : IntsAre _ (List.take 16 ns)) zP; subst zv9)
  k_with "m_eclose" => exact GMap.of
  k_with "m_made" => (have zI9 := map_made (by assumption : IntsAre _ (List.take 16 ns)) zpr)
  k_with "m_close" => exact MadeInts.intro (by assumption) (by k_mem) (by assumption)
  have hG : CompI (Str.ofString "cell") (GMap deckF) := .mk
  walk_at "m_enter"
  k_steps
 k_extra "e_Q"
end Mine.Internal
namespace Mine.Internal
section
variable {prog : Program} {w : World} {A : Around} {E : Value → Shared → Prop} {s : Shared}
theorem listItems_at {M : Model} {a : Addr} {o : Obj} {items : Array Value} {n : Nat} {Q : Array Value → Shared → Prop} (ho : s.heap.get? a = some o) (hd : o.data = .seq items n) (h : Q items s) : wpAny M A (Builtin.List.listItems (.ref a)) Q E s := by
  unfold Builtin.List.listItems
  exact wpAny_bind (m := seqItems? (.ref a)) (wpAny_seqItems ho hd (wpAny_pure h))
end
namespace setItem_slice_e
noncomputable def zzQ (prog : Program) (w : World) (A : Around) (E : Value → Shared → Prop) (s : Shared) (l : Addr) (sl : Addr) (v : Addr) (items : Array Value) (new : Array Value) (vl : Value) (vu : Value) (lo : Option Int) (hi : Option Int) (a : Int) (b : Int) (Q : Unit → Shared → Prop) : Prop := ∀ hl : s.heap.IsList l items, ∀ hs : s.heap.IsSliceOf sl vl vu .none, ∀ pl : IsPart vl lo, ∀ pu : IsPart vu hi, ∀ hv : s.heap.IsList v new, ∀ hne : (l == v) = false, ∀ hb : sliceBounds lo hi none items.size = (a, b, 1), ∀ hlen : Builtin.List.listTooLong (items.size + new.size) = false, ∀ hz : items.size ≤ 1000, ∀ hz' : (items.extract 0 a.toNat ++ new ++ items.extract (max a b).toNat items.size).size ≤ 1000, ∀ hQ : Heap.SameBut l s.heap (s.heap.update l (Obj.mapSeq fun xs => xs.extract 0 a.toNat ++ new ++ xs.extract (max a b).toNat xs.size)) → Q () { s with heap := s.heap.update l (Obj.mapSeq fun xs => xs.extract 0 a.toNat ++ new ++ xs.extract (max a b).toNat xs.size) }, wpAny (model prog w) A (setItem (.ref l) (.ref sl) (.ref v)) Q E s
noncomputable abbrev zzT : Type := Program × World × Around × (Value → Shared → Prop) × Shared × Addr × Addr × Addr × (Array Value) × (Array Value) × Value × Value × (Option Int) × (Option Int) × Int × Int × (Unit → Shared → Prop)
noncomputable def zzS (z : zzT) : Prop := zzQ z.1 z.2.1 z.2.2.1 z.2.2.2.1 z.2.2.2.2.1 z.2.2.2.2.2.1 z.2.2.2.2.2.2.1 z.2.2.2.2.2.2.2.1 z.2.2.2.2.2.2.2.2.1 z.2.2.2.2.2.2.2.2.2.1 z.2.2.2.2.2.2.2.2.2.2.1 z.2.2.2.2.2.2.2.2.2.2.2.1 z.2.2.2.2.2.2.2.2.2.2.2.2.1 z.2.2.2.2.2.2.2.2.2.2.2.2.2.1 z.2.2.2.2.2.2.2.2.2.2.2.2.2.2.1 z.2.2.2.2.2.2.2.2.2.2.2.2.2.2.2.1 z.2.2.2.2.2.2.2.2.2.2.2.2.2.2.2.2
noncomputable def zzc : zzT := @Classical.epsilon zzT ⟨(cN, zw, zA, cN, zs, cN, cN, cN, cN, cN, cN, cN, cN, cN, cN, cN, cN)⟩ fun z => ¬ zzS z
theorem zzcore : zzS zzc := by
  show zzQ _ _ _ _ _ _ _ _ _ _ _ _ _ _ _ _ _
  generalize zzc.1 = prog; generalize zzc.2.1 = w; generalize zzc.2.2.1 = A; generalize zzc.2.2.2.1 = E; generalize zzc.2.2.2.2.1 = s; generalize zzc.2.2.2.2.2.1 = l; generalize zzc.2.2.2.2.2.2.1 = sl; generalize zzc.2.2.2.2.2.2.2.1 = v; generalize zzc.2.2.2.2.2.2.2.2.1 = items; generalize zzc.2.2.2.2.2.2.2.2.2.1 = new; generalize zzc.2.2.2.2.2.2.2.2.2.2.1 = vl; generalize zzc.2.2.2.2.2.2.2.2.2.2.2.1 = vu; generalize zzc.2.2.2.2.2.2.2.2.2.2.2.2.1 = lo; generalize zzc.2.2.2.2.2.2.2.2.2.2.2.2.2.1 = hi; generalize zzc.2.2.2.2.2.2.2.2.2.2.2.2.2.2.1 = a; generalize zzc.2.2.2.2.2.2.2.2.2.2.2.2.2.2.2.1 = b; generalize zzc.2.2.2.2.2.2.2.2.2.2.2.2.2.2.2.2 = Q
  intro hl hs pl pu hv hne hb hlen hz hz' hQ
  obtain ⟨o, ho, hc, n, hd⟩ := id hl
  obtain ⟨os, hos, hcs, hds⟩ := id hs
  obtain ⟨ov, hov, hcv, nv, hdv⟩ := id hv
  have hTs : s.TypeIs (.ref sl) "slice" := ⟨os, hos, hcs⟩
  unfold setItem
  try with_reducible refine wpAny_holding ?_
  first | refine wpAny_bind (wpAny_pure ?_) | skip
  refine wpAny_bind (wpAny_sequenceKey hl.typeIs (by decide) ?_)
  refine wpAny_bind (wpAny_callSpecial?_slot (name := Str.ofString "__setitem__") hl.typeIs slot_list_setitem
    (wpAny_call_entry slot_list_setitem hl.typeIs entry_list_setitem ?_ (args_list_setitem _ _ _)))
  show wpAny _ _ (Builtin.List.listSubscript? (.ref sl) >>= _) _ _ s
  refine wpAny_bind ?_
  unfold Builtin.List.listSubscript?
  refine wpAny_bind (wpAny_specialOf hTs slice_no_index ?_)
  simp only [Option.isNone_none, if_true]
  refine wpAny_pure ?_
  show wpAny _ _ (typeOf (.ref sl) >>= _) _ _ s
  refine wpAny_bind (wpAny_typeOf hTs ?_)
  rw [if_neg (by decide)]
  rw [listSliceParts_eq]
  have hstep : ¬ ((rawPart none == rawInt 0) = true) := Bool.false_ne_true
  refine wpAny_bind (wpAny_bind (wpAny_field hos hds (x := Value.none) rfl (wpAny_bind (wpAny_listPart IsPart.none ?_))))
  rw [if_neg hstep]
  refine wpAny_bind (wpAny_field hos hds (x := vl) rfl (wpAny_bind (wpAny_listPart pl ?_)))
  refine wpAny_bind (wpAny_field hos hds (x := vu) rfl (wpAny_bind (wpAny_listPart pu (wpAny_pure ?_))))
  rw [if_neg (show ¬ (Builtin.List.listSameRef (Value.ref l) (Value.ref v) = true) from by show ¬ ((l == v) = true); rw [hne]; exact Bool.false_ne_true)]
  refine wpAny_bind (m := Builtin.List.listAllItems (.ref v) _) ?_
  unfold Builtin.List.listAllItems
  refine wpAny_bind (wpAny_typeOf hv.typeIs ?_)
  rw [if_pos (by decide)]
  refine listItems_at hov hdv ?_
  refine wpAny_bind (m := Builtin.List.listItems (.ref l)) (listItems_at ho hd ?_)
  refine wpAny_bind (wpAny_of_eq (sliceIndices_raw lo hi none items.size (by simp)) ?_)
  rw [hb]
  (try dsimp only)
  rw [if_pos (by decide)]
  refine wpAny_bind (wpAny_rule ?_)
  rw [hlen]
  simp only [Bool.false_eq_true, if_false]
  refine wpAny_bind (m := updateSeq l _) (wpAny_updateSeq ho hd ?_ (by rw [PySem.sizeLine_eq]; lia) (by rw [PySem.sizeLine_eq]; lia))
  refine wpAny_bind (wpAny_letGo ?_)
  exact wpAny_pure ⟨.none, rfl, wpAny_pure (hQ (Heap.SameBut.update ..))⟩
end setItem_slice_e
theorem setItem_slice {prog : Program} {w : World} {A : Around} {E : Value → Shared → Prop} {s : Shared} {l sl v : Addr} {items new : Array Value} {vl vu : Value} {lo hi : Option Int} {a b : Int} {Q : Unit → Shared → Prop} (hl : s.heap.IsList l items)
    (hs : s.heap.IsSliceOf sl vl vu .none) (pl : IsPart vl lo) (pu : IsPart vu hi) (hv : s.heap.IsList v new) (hne : (l == v) = false) (hb : sliceBounds lo hi none items.size = (a, b, 1)) (hlen : Builtin.List.listTooLong (items.size + new.size) = false) (hz : items.size ≤ 1000) (hz' : (items.extract 0 a.toNat ++ new ++ items.extract (max a b).toNat items.size).size ≤ 1000)
    (hQ : Heap.SameBut l s.heap (s.heap.update l (Obj.mapSeq fun xs => xs.extract 0 a.toNat ++ new ++ xs.extract (max a b).toNat xs.size)) → Q () { s with heap := s.heap.update l (Obj.mapSeq fun xs => xs.extract 0 a.toNat ++ new ++ xs.extract (max a b).toNat xs.size) }) : wpAny (model prog w) A (setItem (.ref l) (.ref sl) (.ref v)) Q E s := epsU (P := setItem_slice_e.zzS) (by with_unfolding_all exact setItem_slice_e.zzcore) (prog, w, A, E, s, l, sl, v, items, new, vl, vu, lo, hi, a, b, Q) hl hs pl pu hv hne hb hlen hz hz' hQ
section
variable {prog : Program} {w : World} {A : Around} {E : Value → Shared → Prop} {s : Shared}
theorem setItem_sliceK {h₀ : Heap} {L : Addr} {m : Str → Option Value} {news : List (Addr × Obj)} {l sl v : Addr} {xs new : List Value} {n nv : Nat} {vl vu : Value} {lo hi : Option Int} {a b : Int} {up : Obj → List (Addr × Obj)} {Q : Unit → Shared → Prop} (F : Fr h₀ L s.heap m) (N : News h₀ L s.heap news) (U : UpdF l (listOf xs.toArray n) news up)
    (hs : s.heap.IsSliceOf sl vl vu .none) (pl : IsPart vl lo) (pu : IsPart vu hi) (hv : (v, listOf new.toArray nv) ∈ news) (hne : @Ne Nat v l) (hb : sliceBounds lo hi none xs.toArray.size = (a, b, 1)) (hlen : Builtin.List.listTooLong (xs.toArray.size + new.toArray.size) = false) (hz : xs.length ≤ 1000) {res : List Value} (hres : xs.toArray.extract 0 a.toNat ++ new.toArray ++ xs.toArray.extract (max a b).toNat xs.toArray.size = res.toArray) (hz' : res.length = xs.length)
    (hQ : ∀ h', Fr h₀ L h' m → News h₀ L h' (up (listOf res.toArray n)) → Q () { s with heap := h' }) :
    wpAny (model prog w) A (setItem (.ref l) (.ref sl) (.ref v)) Q E s := by
  obtain ⟨pre, post, e1, e2, e3, e4⟩ := U.split
  have hm : (l, listOf xs.toArray n) ∈ news := by rw [e1]; simp
  have Nl := N _ hm
  refine setItem_slice (new := new.toArray) ⟨_, Nl.1, rfl, _, rfl⟩ hs pl pu ⟨_, (N _ hv).1, rfl, _, rfl⟩ (beq_eq_false_iff_ne.mpr fun q => hne q.symm) hb hlen (by simpa using hz) (by rw [hres]; simp; lia) fun sb => hQ _ (F.change sb Nl.2.1 Nl.2.2) ?_
  rw [e2]
  exact kl_turn0 _ (e1 ▸ N) e3 e4 hres (by simp; lia)
theorem setItem_sliceP {h₀ h : Heap} {L : Addr} {m : Str → Option Value} {news : List (Addr × Obj)} {l sl v : Addr} {xs new : List Value} {n nv : Nat} {vl vu : Value} {lo hi : Option Int} {a b : Int} {up : Obj → List (Addr × Obj)} {Q : Unit → Shared → Prop} (F : Fr h₀ L h m) (N : News h₀ L h news) (hp : s.heap = h.push { cls := .type "slice", data := .fields #[vl, vu, .none] }) (hsl : sl = h.objs.size) (U : UpdF l (listOf xs.toArray n) news up)
    (pl : IsPart vl lo) (pu : IsPart vu hi) (hv : (v, listOf new.toArray nv) ∈ news) (hne : @Ne Nat v l) (hb : sliceBounds lo hi none xs.toArray.size = (a, b, 1)) (hlen : Builtin.List.listTooLong (xs.toArray.size + new.toArray.size) = false) (hz : xs.length ≤ 1000) {res : List Value} (hres : xs.toArray.extract 0 a.toNat ++ new.toArray ++ xs.toArray.extract (max a b).toNat xs.toArray.size = res.toArray) (hz' : res.length = xs.length)
    (hQ : ∀ h', Fr h₀ L h' m → News h₀ L h' (up (listOf res.toArray n)) → Q () { s with heap := h' }) :
    wpAny (model prog w) A (setItem (.ref l) (.ref sl) (.ref v)) Q E s := by
  have up' : ∀ c o, h.get? c = some o → s.heap.get? c = some o := fun c o e => by rw [hp]; exact Heap.get?_push_of_some _ e
  have hs : s.heap.IsSliceOf sl vl vu .none := by rw [hp, hsl]; exact Heap.IsSliceOf.new ..
  exact setItem_sliceK (F.keeps up') (N.grown up') U hs pl pu hv hne hb hlen hz hres hz' hQ
theorem slice_lists {xs new : List Value} {a j : Nat} : xs.toArray.extract 0 a ++ new.toArray ++ xs.toArray.extract j xs.toArray.size = (xs.take a ++ new ++ xs.drop j).toArray := by
  rw [List.extract_toArray, List.extract_toArray, List.append_toArray, List.append_toArray]
  have e1 : xs.extract 0 a = xs.take a := by simp [List.extract]
  have e2 : xs.extract j xs.toArray.size = xs.drop j := by
    simp only [List.extract, List.size_toArray]
    exact List.take_of_length_le (by simp)
  rw [e1, e2]
theorem setItem_sliceL {h₀ h : Heap} {L : Addr} {m : Str → Option Value} {news : List (Addr × Obj)} {l sl v : Addr} {xs new : List Value} {n nv : Nat} {vl vu : Value} {lo hi : Option Int} {a b : Int} {up : Obj → List (Addr × Obj)} {Q : Unit → Shared → Prop} (F : Fr h₀ L h m) (N : News h₀ L h news) (hp : s.heap = h.push { cls := .type "slice", data := .fields #[vl, vu, .none] }) (hsl : sl = h.objs.size) (U : UpdF l (listOf xs.toArray n) news up)
    (pl : IsPart vl lo) (pu : IsPart vu hi) (hv : (v, listOf new.toArray nv) ∈ news) (hne : @Ne Nat v l) (hb : sliceBounds lo hi none xs.toArray.size = (a, b, 1)) (hlen : Builtin.List.listTooLong (xs.toArray.size + new.toArray.size) = false) (hz : xs.length ≤ 1000) {res : List Value} (hres : xs.take a.toNat ++ new ++ xs.drop (max a b).toNat = res) (hz' : res.length = xs.length)
    (hQ : ∀ h', Fr h₀ L h' m → News h₀ L h' (up (listOf res.toArray n)) → Q () { s with heap := h' }) :
    wpAny (model prog w) A (setItem (.ref l) (.ref sl) (.ref v)) Q E s :=
  setItem_sliceP F N hp hsl U pl pu hv hne hb hlen hz (by rw [slice_lists, hres]) hz' hQ
end
end Mine.Internal
namespace Mine.Internal
noncomputable def Dis : List (Addr × Obj) → Prop
  | [] => True
  | p :: r => (∀ q ∈ r, @Ne Nat q.1 p.1) ∧ Dis r
inductive UpdS (d : Addr) (o o' : Obj) : List (Addr × Obj) → List (Addr × Obj) → Prop
  | head {r} : UpdS d o o' ((d, o) :: r) ((d, o') :: r)
  | tail {p r r'} : UpdS d o o' r r' → UpdS d o o' (p :: r) (p :: r')
section
variable {d : Addr} {o o' : Obj} {l l' : List (Addr × Obj)} {g : Obj → List (Addr × Obj)}
theorem UpdS.mem (U : UpdS d o o' l l') : (d, o) ∈ l := by
  induction U with
  | head => exact .head _
  | tail _ ih => exact .tail _ ih
theorem UpdS.ne (U : UpdS d o o' l l') {x : Nat} (h : ∀ q ∈ l, @Ne Nat q.1 x) : ∀ q ∈ l', @Ne Nat q.1 x := by
  induction U with
  | head =>
    intro q hq
    rcases List.mem_cons.mp hq with rfl | hq
    · exact h (d, o) (.head _)
    · exact h q (.tail _ hq)
  | tail _ ih =>
    intro q hq
    rcases List.mem_cons.mp hq with rfl | hq
    · exact h _ (.head _)
    · exact ih (fun q hq => h q (.tail _ hq)) q hq
theorem updD (D : Dis l) (U : UpdS d o o' l l') : Upd d o o' l l' := by
  induction U with
  | head => exact .head fun p hp => D.1 p hp
  | tail U ih => exact .tail (fun e => D.1 _ U.mem e.symm) (ih D.2)
theorem Dis.upd (D : Dis l) (U : UpdS d o o' l l') : Dis l' := by
  induction U with
  | head => exact ⟨D.1, D.2⟩
  | tail U ih => exact ⟨U.ne D.1, ih D.2⟩
inductive UpdSF (d : Addr) (o : Obj) : List (Addr × Obj) → (Obj → List (Addr × Obj)) → Prop
  | head {r} : UpdSF d o ((d, o) :: r) (fun o' => (d, o') :: r)
  | tail {p r g} : UpdSF d o r g → UpdSF d o (p :: r) (fun o' => p :: g o')
theorem UpdSF.at (U : UpdSF d o l g) : UpdS d o o' l (g o') := by
  induction U with
  | head => exact .head
  | tail _ ih => exact .tail ih
theorem UpdSF.next (U : UpdSF d o l g) : UpdSF d o' (g o') g := by
  induction U with
  | head => exact .head
  | tail _ ih => exact .tail ih
theorem updFD (D : Dis l) (U : UpdSF d o l g) : UpdF d o l g := by
  induction U with
  | head => exact .head fun p hp => D.1 p hp
  | tail U ih => exact .tail (fun e => D.1 _ (U.at (o' := o)).mem e.symm) (ih D.2)
end
noncomputable def DisA : List Addr → Prop
  | [] => True
  | a :: r => (∀ b ∈ r, @Ne Nat b a) ∧ DisA r
theorem DisA.dis : ∀ {l : List (Addr × Obj)} {as : List Addr}, DisA as → l.map (·.1) = as → Dis l
  | [], _, _, _ => trivial
  | p :: r, _, D, e => by
    subst e
    exact ⟨fun q hq => D.1 _ (List.mem_map_of_mem hq), DisA.dis D.2 rfl⟩
theorem DisA.of : ∀ {l : List (Addr × Obj)} {as : List Addr}, Dis l → l.map (·.1) = as → DisA as
  | [], _, _, e => by subst e; trivial
  | p :: r, _, D, e => by
    subst e
    exact ⟨fun b hb => let ⟨q, hq, eq⟩ := List.mem_map.mp hb; eq ▸ D.1 q hq, DisA.of D.2 rfl⟩
theorem DisA.lt {l : List (Addr × Obj)} {as : List Addr} {x : Addr} (D : DisA as) (h : ∀ q ∈ l, q.1 < x) (e : l.map (·.1) = as) : DisA (x :: as) := ⟨fun b hb => by
  rw [← e] at hb
  obtain ⟨q, hq, eq⟩ := List.mem_map.mp hb
  exact eq ▸ Nat.ne_of_lt (h q hq), D⟩
theorem DisA.cons {l : List (Addr × Obj)} {as : List Addr} {x : Addr} (D : DisA as) (h : ∀ q ∈ l, @Ne Nat q.1 x) (e : l.map (·.1) = as) : DisA (x :: as) := ⟨fun b hb => by
  rw [← e] at hb
  obtain ⟨q, hq, eq⟩ := List.mem_map.mp hb
  exact eq ▸ h q hq, D⟩
theorem DisA.two {l : List (Addr × Obj)} {as : List Addr} {x dx : Addr} (D : DisA as) (l1 : ∀ p ∈ l, p.1 < dx) (l2 : dx < x) (e : l.map (·.1) = as) : DisA (x :: dx :: as) :=
  ⟨fun b hb => by
    rcases List.mem_cons.mp hb with rfl | hb
    · exact Nat.ne_of_lt l2
    · rw [← e] at hb
      obtain ⟨q, hq, eq⟩ := List.mem_map.mp hb
      exact eq ▸ Nat.ne_of_lt (Nat.lt_trans (l1 q hq) l2), D.lt l1 e⟩
theorem disA_for {g h : Heap} {L : Addr} {l : List (Addr × Obj)} {as : List Addr} (_ : News g L h l) (D : DisA as) (_ : l.map (·.1) = as) : DisA as := D
inductive InL (b : Addr) : List Addr → Prop
  | head {r} : InL b (b :: r)
  | tail {p r} : InL b r → InL b (p :: r)
theorem InL.mem {b : Addr} {r : List Addr} (h : InL b r) : b ∈ r := by
  induction h with
  | head => exact .head _
  | tail _ ih => exact .tail _ ih
inductive AheadL (a b : Addr) : List Addr → Prop
  | here {r} : InL b r → AheadL a b (a :: r)
  | skip {p r} : AheadL a b r → AheadL a b (p :: r)
theorem DisA.ne {a b : Addr} {l : List Addr} (D : DisA l) (h : AheadL a b l) : @Ne Nat a b := by
  induction h with
  | here m => exact fun e => D.1 _ m.mem e.symm
  | skip _ ih => exact ih D.2
theorem DisA.ne' {a b : Addr} {l : List Addr} (D : DisA l) (h : AheadL a b l) : @Ne Nat b a := fun e => D.ne h e.symm
theorem updDA {d : Addr} {o o' : Obj} {l l' : List (Addr × Obj)} {as : List Addr} (D : DisA as) (e : l.map (·.1) = as) (U : UpdS d o o' l l') : Upd d o o' l l' := updD (D.dis e) U
theorem updFDA {d : Addr} {o : Obj} {l : List (Addr × Obj)} {g : Obj → List (Addr × Obj)} {as : List Addr} (D : DisA as) (e : l.map (·.1) = as) (U : UpdSF d o l g) : UpdF d o l g := updFD (D.dis e) U
section
variable {prog : Program} {w : World} {A : Around} {E : Value → Shared → Prop} {K : Frag} {x C dx L : Addr} {h₀ hp : Heap} {gs : Array GenState} {dr : Drawn} {tk : Nat} {os : OsState} {m : Str → Option Value} {news news' : List (Addr × Obj)} {es es' : List DictEntry} {n n' : Nat} {name : Str} {v : Value}
theorem set_dictD {Q : Unit → Shared → Prop} (F : Fr h₀ L hp m) (X₀ : K.In h₀) (N : News h₀ L hp news) (D : Dis news) (hx : (x, instObj C dx) ∈ news)
    (hs : findIn K (.ref C) "__setattr__" = some (some (.builtin "object.__setattr__"))) (hp' : plainOver K C = true) (ht : takerIn K C name = some none) (hh : hasDictIn K C = true) (hl : (getL name es).isSome = true)
    (e : (putL name (PyData.keyHash w.params name) (.str name (tk + 1)) v es, putN name es n) = (es', n')) (U : UpdS dx (dictOf es n) (dictOf es' n') news news') (hz : es'.length ≤ 1000)
    (h : ∀ h' tk', Fr h₀ L h' m → News h₀ L h' news' → Dis news' → Q () ⟨h', gs, dr, tk', os⟩) :
    wpAny (model prog w) A (setAttr (.ref x) name v) Q E ⟨hp, gs, dr, tk, os⟩ :=
  set_dict (s := ⟨hp, gs, dr, tk, os⟩) F X₀ N (InstAt.of_news N hx U.mem) rfl hs hp' ht hh hl e (updD D U) hz fun h' F' N' => h h' _ F' N' (D.upd U)
theorem set_dictP {Q : Unit → Shared → Prop} {g : Obj → List (Addr × Obj)} {as : List Addr} (F : Fr h₀ L hp m) (X₀ : K.In h₀) (N : News h₀ L hp news) (hx : (x, instObj C dx) ∈ news) (U : UpdSF dx (dictOf es n) news g) (D : DisA as) (ea : news.map (·.1) = as)
    (hs : findIn K (.ref C) "__setattr__" = some (some (.builtin "object.__setattr__"))) (hp' : plainOver K C = true) (ht : takerIn K C name = some none) (hh : hasDictIn K C = true) (hl : (getL name es).isSome = true)
    (e : (putL name (PyData.keyHash w.params name) (.str name (tk + 1)) v es, putN name es n) = (es', n')) (hz : es'.length ≤ 1000)
    (h : ∀ h' tk', Fr h₀ L h' m → News h₀ L h' (g (dictOf es' n')) → Q () ⟨h', gs, dr, tk', os⟩) :
    wpAny (model prog w) A (setAttr (.ref x) name v) Q E ⟨hp, gs, dr, tk, os⟩ :=
  set_dictD F X₀ N (D.dis ea) hx hs hp' ht hh hl e U.at hz fun h' tk' F' N' _ => h h' tk' F' N'
structure Put (name : Str) (v : Value) (es es' : List DictEntry) : Prop where
  self : getL name es' = some (some v)
  other : ∀ y, y ≠ name → getL y es' = getL y es
  len : es'.length ≤ es.length + 1
theorem Put.get {name y : Str} {v : Value} {es es' : List DictEntry} {r : Option (Option Value)} (P : Put name v es es') (hy : y ≠ name) (h : getL y es = r) : getL y es' = r := (P.other y hy).trans h
theorem isStr_ne {k : Value} {x y : Str} (h : k.isStr x = true) (hne : y ≠ x) : k.isStr y = false := by
  cases k with
  | str s t =>
    have h1 : s = x := of_decide_eq_true h
    exact decide_eq_false fun q => hne (q.symm.trans h1)
  | _ => cases h
theorem find_put {hsh : Int} {t : Tok} {y : Str} (hne : y ≠ name) : ∀ es : List DictEntry, (putL name hsh (.str name t) v es).find? (·.key.isStr y) = es.find? (·.key.isStr y)
  | [] => by
    have : (Value.str name t).isStr y = false := decide_eq_false fun q => hne q.symm
    simp [putL, this]
  | e :: r => by
    unfold putL
    cases h : e.key.isStr name with
    | true =>
      have := isStr_ne h hne
      simp [this]
    | false =>
      simp only [Bool.false_eq_true, if_false, List.find?_cons]
      rw [find_put hne r]
theorem find_self {hsh : Int} {t : Tok} : ∀ es : List DictEntry, ∃ e, (putL name hsh (.str name t) v es).find? (·.key.isStr name) = some e ∧ e.val = v
  | [] => ⟨⟨hsh, .str name t, v⟩, by
    have : (Value.str name t).isStr name = true := decide_eq_true rfl
    simp [putL, this], rfl⟩
  | e :: r => by
    unfold putL
    cases h : e.key.isStr name with
    | true => exact ⟨⟨e.hash, e.key, v⟩, by simp [h], rfl⟩
    | false =>
      obtain ⟨e', h1, h2⟩ := find_self (hsh := hsh) (t := t) r
      exact ⟨e', by simp [h, h1], h2⟩
theorem any_put {hsh : Int} {t : Tok} : ∀ es : List DictEntry, (putL name hsh (.str name t) v es).any (·.refKey) = es.any (·.refKey)
  | [] => rfl
  | e :: r => by
    unfold putL
    cases h : e.key.isStr name with
    | true => rfl
    | false =>
      simp only [Bool.false_eq_true, if_false, List.any_cons]
      rw [any_put r]
theorem len_put {hsh : Int} {key : Value} : ∀ es : List DictEntry, (putL name hsh key v es).length ≤ es.length + 1
  | [] => Nat.le_refl _
  | e :: r => by
    unfold putL
    split
    · simp only [List.length_cons]; omega
    · have := len_put (hsh := hsh) (key := key) r
      simp only [List.length_cons]; omega
theorem Put.mk' {hsh : Int} {t : Tok} : Put name v es (putL name hsh (.str name t) v es) := by
  refine ⟨?_, fun y hy => ?_, len_put es⟩
  · obtain ⟨e, h1, h2⟩ := find_self (name := name) (v := v) (hsh := hsh) (t := t) es
    unfold getL; rw [h1, ← h2]
  · unfold getL; rw [find_put hy, any_put]
theorem set_dictO {Q : Unit → Shared → Prop} {g : Obj → List (Addr × Obj)} {as : List Addr} (F : Fr h₀ L hp m) (X₀ : K.In h₀) (N : News h₀ L hp news) (hx : (x, instObj C dx) ∈ news) (U : UpdSF dx (dictOf es n) news g) (D : DisA as) (ea : news.map (·.1) = as)
    (hs : findIn K (.ref C) "__setattr__" = some (some (.builtin "object.__setattr__"))) (hp' : plainOver K C = true) (ht : takerIn K C name = some none) (hh : hasDictIn K C = true) (hl : (getL name es).isSome = true) (hz : es.length ≤ 900)
    (h : ∀ h' tk' es' n', Fr h₀ L h' m → News h₀ L h' (g (dictOf es' n')) → Put name v es es' → Q () ⟨h', gs, dr, tk', os⟩) :
    wpAny (model prog w) A (setAttr (.ref x) name v) Q E ⟨hp, gs, dr, tk, os⟩ :=
  set_dictD F X₀ N (D.dis ea) hx hs hp' ht hh hl rfl U.at (Nat.le_trans (len_put es) (by omega)) fun h' tk' F' N' _ => h h' tk' _ _ F' N' Put.mk'
inductive SetsAre (self : Str) : List Stmt → List (Str × Const) → List Stmt → Prop
  | nil {r} : SetsAre self r [] r
  | cons {x c k p1 p2 p3 p4 st l r} : SetsAre self st l r → SetsAre self (.Assign [.Attribute (.Name self p1) x p2] (.Constant c k p3) p4 :: st) ((x, c) :: l) r
@[reducible] def cval : Const → Tok → Value
  | .int i, t => .int i t
  | .bool b, _ => .bool b
  | _, _ => .none
noncomputable def cok : Const → Bool
  | .int _ => true
  | .bool _ => true
  | .none => true
  | _ => false
noncomputable def mkEs (w : World) : List (Str × Const) → (Nat → Tok) → (Nat → Tok) → List DictEntry
  | [], _, _ => []
  | (x, c) :: l, k, v => ⟨PyData.keyHash w.params x, .str x (k 0), cval c (v 0)⟩ :: mkEs w l (fun i => k (i + 1)) (fun i => v (i + 1))
noncomputable def fresh (es : List DictEntry) (l : List (Str × Const)) : Bool := !es.any (·.refKey) && l.all fun y => !es.any (·.key.isStr y.1)
noncomputable def apart : List (Str × Const) → Bool
  | [] => true
  | y :: l => l.all (fun z => !(z.1 == y.1)) && apart l
theorem putL_new {hsh : Int} {key : Value} : ∀ {es : List DictEntry}, es.any (·.key.isStr name) = false → putL name hsh key v es = es ++ [⟨hsh, key, v⟩]
  | [], _ => rfl
  | e :: r, h => by
    rw [List.any_cons, Bool.or_eq_false_iff] at h
    unfold putL
    rw [if_neg (by rw [h.1]; decide), putL_new h.2]; rfl
theorem getL_some (h : es.any (·.refKey) = false) : (getL name es).isSome = true := by
  unfold getL
  split
  · rfl
  · rw [h]; rfl
theorem const_K {c : Const} {k : Nat} {pos : Pos} {env : Env} {s : Shared} {Q : Value → Shared → Prop} (hc : cok c = true) (h : ∀ t tk', Q (cval c t) { s with toks := tk' }) : wpAny (model prog w) A (eval (.Constant c k pos) env) Q E s := by
  cases c with
  | int i => exact wpAny_Constant_int (h _ _)
  | bool b => exact wpAny_Constant_bool (h 0 s.toks)
  | none => exact wpAny_Constant_none (h 0 s.toks)
  | _ => cases hc
theorem swaps_const {c : Const} {k : Nat} {p : Pos} {t : Option PySem.Expr} {line : Nat} {env : Env} : swapsWith (.Constant c k p) t line env = pure false := by rfl
variable {cn : Str} {cs : Scope} {a : Addr} {ccd : Value} {cl : List (Str × Addr)} {self : Str} {rest : List Stmt}
theorem sets_K (X₀ : K.In h₀) (hself : m self = some (.ref x)) (hk : cs.kind = .function) (hloc : (envX cn cs L a ccd cl).kindOf self = some .local) (hdb : (self == ("__debug__" : Str)) = false)
    (hs : findIn K (.ref C) "__setattr__" = some (some (.builtin "object.__setattr__"))) (hp' : plainOver K C = true) (hh : hasDictIn K C = true) {Q : Flow → Shared → Prop} {g : Obj → List (Addr × Obj)} {st : List Stmt} {l : List (Str × Const)} (S : SetsAre self st l rest) :
    ∀ {hp : Heap} {tk : Nat} {news : List (Addr × Obj)} {es : List DictEntry} {n : Nat}, Fr h₀ L hp m → News h₀ L hp news → Dis news → (x, instObj C dx) ∈ news → dx ≠ x → UpdSF dx (dictOf es n) news g → (l.all fun y => cok y.2) = true → (∀ y ∈ l, takerIn K C y.1 = some none) → fresh es l = true → apart l = true → es.length + l.length ≤ 1000 →
      (∀ h' tk' k v, Fr h₀ L h' m → News h₀ L h' (g (dictOf (es ++ mkEs w l k v) (n + l.length))) → Dis (g (dictOf (es ++ mkEs w l k v) (n + l.length))) → wpAny (model prog w) A (execs rest (envX cn cs L a ccd cl)) Q E ⟨h', gs, dr, tk', os⟩) →
      wpAny (model prog w) A (execs st (envX cn cs L a ccd cl)) Q E ⟨hp, gs, dr, tk, os⟩ := by
  induction S with
  | nil =>
    intro hp tk news es n F N D hx hne U ho hto hf ha hz k
    have e : g (dictOf (es ++ mkEs w [] (fun _ => 0) (fun _ => 0)) (n + 0)) = news := by
      simp only [mkEs, List.append_nil, Nat.add_zero]
      clear k hf F N D hx
      induction U with
      | head => rfl
      | tail U ih => exact congrArg _ ih
    exact k hp tk (fun _ => 0) (fun _ => 0) F (by rw [List.length_nil, e]; exact N) (by rw [List.length_nil, e]; exact D)
  | @cons y c kk p1 p2 p3 p4 st l r S ih =>
    intro hp tk news es n F N D hx hne U ho hto hf ha hz k
    simp only [List.all_cons, Bool.and_eq_true] at ho
    obtain ⟨hc, ho⟩ := ho
    have ht := hto _ (.head _)
    have hto := fun z hz => hto z (.tail _ hz)
    unfold fresh at hf
    simp only [List.all_cons, Bool.and_eq_true, Bool.not_eq_true'] at hf
    obtain ⟨hr, hy, hf⟩ := hf
    obtain ⟨ha1, ha⟩ : (l.all (fun z => !(z.1 == y)) = true) ∧ apart l = true := by
      unfold apart at ha; exact Bool.and_eq_true_iff.mp ha
    simp only [List.length_cons] at hz
    refine wpAny_execs_cons (plainObj_wpAny_Assign_Attribute (const_K hc fun t tk1 => nameX_L F hself ?_ hk hloc hdb) swaps_const)
    refine set_dictD (tk := tk1) F X₀ N D hx hs hp' ht hh (getL_some hr) (n' := n + 1) (by rw [putL_new hy]; unfold putN; rw [if_neg (by rw [hy]; decide)]) (U.at) (by rw [List.length_append]; simp only [List.length_cons, List.length_nil]; omega) fun h' tk' F' N' D' => ?_
    refine ih F' N' D' ?_ hne U.next ho hto ?_ ha (by rw [List.length_append]; simp only [List.length_cons, List.length_nil]; omega) fun h2 tk2 k2 v2 F2 N2 D2 => ?_
    · clear k ih hf N N' D D' F F'
      induction U with
      | head => rcases List.mem_cons.mp hx with q | q
                · exact absurd (congrArg Prod.fst q).symm hne
                · exact .tail _ q
      | tail U ih => rcases List.mem_cons.mp hx with q | q
                     · rw [← q]; exact .head _
                     · exact .tail _ (ih q)
    · unfold fresh
      simp only [List.any_append, List.any_cons, List.any_nil, Bool.or_false, hr, Bool.false_or, Bool.and_eq_true, Bool.not_eq_true', List.all_eq_true]
      refine ⟨rfl, fun z hz => ?_⟩
      have h1 := List.all_eq_true.mp hf z hz
      have h2 := List.all_eq_true.mp ha1 z hz
      simp only [Bool.not_eq_true', beq_eq_false_iff_ne, ne_eq] at h1 h2
      simp only [h1, Bool.false_or]
      show decide (y = z.1) = false
      exact decide_eq_false fun q => h2 q.symm
    · have e : ∀ k0 v0, es ++ mkEs w ((y, c) :: l) (fun i => match i with | 0 => k0 | i + 1 => k2 i) (fun i => match i with | 0 => v0 | i + 1 => v2 i) = es ++ [⟨PyData.keyHash w.params y, .str y k0, cval c v0⟩] ++ mkEs w l k2 v2 := fun k0 v0 => by
        rw [List.append_assoc]; rfl
      have := k h2 tk2 (fun i => match i with | 0 => tk1 + 1 | i + 1 => k2 i) (fun i => match i with | 0 => t | i + 1 => v2 i) F2
      rw [e, List.length_cons, show n + (l.length + 1) = n + 1 + l.length by omega] at this
      exact this N2 D2
theorem sets_rowA {Q : Flow → Shared → Prop} {g : Obj → List (Addr × Obj)} {st : List Stmt} {l : List (Str × Const)} {as : List Addr} (F : Fr h₀ L hp m) (N : News h₀ L hp news) (D : DisA as) (ea : news.map (·.1) = as) (X₀ : K.In h₀) (S : SetsAre self st l rest) (hself : m self = some (.ref x)) (hx : (x, instObj C dx) ∈ news) (U : UpdSF dx (dictOf es n) news g)
    (hk : cs.kind = .function) (hloc : (envX cn cs L a ccd cl).kindOf self = some .local) (hdb : (self == ("__debug__" : Str)) = false)
    (hs : findIn K (.ref C) "__setattr__" = some (some (.builtin "object.__setattr__"))) (hp' : plainOver K C = true) (hh : hasDictIn K C = true) (hne : @Ne Nat dx x) (ho : (l.all fun y => cok y.2) = true) (hto : ∀ y ∈ l, takerIn K C y.1 = some none) (hf : fresh es l = true) (ha : apart l = true) (hz : es.length + l.length ≤ 1000)
    (k : ∀ h' tk' k v, Fr h₀ L h' m → News h₀ L h' (g (dictOf (es ++ mkEs w l k v) (n + l.length))) → wpAny (model prog w) A (execs rest (envX cn cs L a ccd cl)) Q E ⟨h', gs, dr, tk', os⟩) :
    wpAny (model prog w) A (execs st (envX cn cs L a ccd cl)) Q E ⟨hp, gs, dr, tk, os⟩ := sets_K X₀ hself hk hloc hdb hs hp' hh S F N (D.dis ea) hx hne U ho hto hf ha hz fun h' tk' k0 v0 F' N' _ => k h' tk' k0 v0 F' N'
end
end Mine.Internal
namespace Mine.Internal
theorem ints_nil {vs : List Value} (h : IntsAre vs []) : vs = [] := List.eq_nil_of_length_eq_zero (ints_len h)
theorem DeckO.of {zys : List Value} {ns : List Int} {c : Nat} (I : IntsAre zys ((ns.take 16).map deckF)) : DeckO (listOf zys.toArray c) := by
  refine ⟨zys, _, c, rfl, I, fun d hd => ?_, ?_⟩
  · obtain ⟨n, _, rfl⟩ := List.mem_map.mp hd
    unfold deckF
    have h1 : (0 : Int) < 10 ^ 30 := by decide
    exact ⟨Int.fmod_nonneg_of_pos _ h1, Int.fmod_lt_of_pos _ h1⟩
  · rw [ints_len I, List.length_map, List.length_take]
    omega
theorem segB2 {w : World} {name : Str} {scope : Scope} {body : List Stmt} {L fa d r b db gt dg mk dm cc : Addr} {B h0 g h : Heap} {s : Shared} {tk : Nat} {m : Str → Option Value} {es es2 es3 : List DictEntry} {k k2 k3 kc : Nat} {cs : List Value} {o ro c1 c2 : Obj} {all : List (Addr × Obj)} (hb : LawIs w name scope body) (X : LawC w B L) (G : Gr B h0 g []) (F : Fr g L h m) (N : News g L h all)
    (m1 : (L + 2, c2) ∈ all) (hc2 : c2.data = .cell (some (.ref b))) (m2 : (b, instObj 631 db) ∈ all) (m3 : (db, dictOf es k) ∈ all) (k1 : getL (Str.ofString "text") es = some (some (.ref gt))) (k2' : getL (Str.ofString "markers") es = some (some (.ref mk))) (k9 : getL (Str.ofString "size") es = some none)
    (m4 : (gt, instObj 525 dg) ∈ all) (m5 : (dg, dictOf es2 k2) ∈ all) (k3' : getL (Str.ofString "cells") es2 = some (some (.ref cc))) (k4 : ∃ t, getL (Str.ofString "gap_start") es2 = some (some (.int 5 t))) (k5 : ∃ t, getL (Str.ofString "gap_end") es2 = some (some (.int 8 t))) (k10 : getL (Str.ofString "size") es2 = some none)
    (m6 : (mk, instObj 223 dm) ∈ all) (m7 : (dm, dictOf es3 k3) ∈ all) (k6 : getL (Str.ofString "rows") es3 = some (some (.ref r))) (k8 : getL (Str.ofString "put") es3 = some none) (m8 : (cc, listOf cs.toArray kc) ∈ all) (k7 : cs.length = 8) (m9 : (r, ro) ∈ all) (hR : RowsO w 0 ro)
    (m10 : (L + 1, c1) ∈ all) (hc1 : c1.data = .cell (some (.ref d))) (m11 : (d, o) ∈ all) (hK : DeckO o) (mt : ∀ p ∈ [((766 : Addr), tabObj #[]), (761, tabObj #[]), (754, tabObj #[]), (749, tabObj #[])], p ∈ all)
    (hrd : @Ne Nat r d) (hne : ∀ a ∈ [b, db, gt, dg, mk, dm, cc, L + 1, L + 2, 766, 761, 754, 749], @Ne Nat a d ∧ @Ne Nat a r)
    (hfold : ∀ D : Heap, Std w D → CodeHd D 751 749 → D.get? 749 = none → ∀ {l l2 : Addr} {vs us : List Value} {ns : List Int}, D.IsList l vs.toArray → NumsAt D vs ns → D.IsList l2 us.toArray → IntsAre us ns → Sm ns → CallsT w 350 (.ref 752) [.ref l, .ref l2] D 749 (fun v _ => v = .bool true)) :
    wpAny (model Challenge.rw_np0089_01.row.prog w) (callerA.deeper (LawEnv name scope L fa)) (execs (body.drop 3) (LawEnv name scope L fa)) (fun fl s' => LawEnd B L s (flv fl) s') (fun _ _ => False) { s with heap := h, toks := tk } := by
  have t1 := mt _ (.head _)
  have t2 := mt _ (.tail _ (.head _))
  have t3 := mt _ (.tail _ (.tail _ (.head _)))
  have t4 := mt _ (.tail _ (.tail _ (.tail _ (.head _))))
  refine segB (db := db) (dg := dg) (dm := dm) (k := k) (k2 := k2) (k3 := k3) (kc := kc) hb X G F (News.part N ?_) hc1 hc2 hK hR ⟨k1, k2', k3', k4, k5, k6, k7, k8, k9, k10⟩ hrd ?_ (fun a ha => hne a (.tail _ (.tail _ (.tail _ (.tail _ (.tail _ (.tail _ (.tail _ ha)))))))) hfold
  · dsimp only [lawL, bufE, List.cons_append, List.nil_append]
    repeat' (first | exact List.forall_mem_nil _ | refine List.forall_mem_cons.mpr ⟨by with_reducible assumption, ?_⟩)
  · dsimp only [bufE]
    repeat' (first | exact List.forall_mem_nil _ | refine List.forall_mem_cons.mpr ⟨hne _ (by repeat' (first | exact List.Mem.head _ | refine List.Mem.tail _ ?_)), ?_⟩)
theorem isSome_of {y : Str} {es : List DictEntry} {r : Option Value} (h : getL y es = some r) : (getL y es).isSome = true := by rw [h]; rfl
theorem Put.selfE {name : Str} {i j : Int} {t : Tok} {es es' : List DictEntry} (P : Put name (.int i t) es es') (e : i = j) : ∃ t, getL name es' = some (some (.int j t)) := ⟨t, e ▸ P.self⟩
theorem Put.getE {name y : Str} {v : Value} {j : Int} {es es' : List DictEntry} (P : Put name v es es') (hy : y ≠ name) (h : ∃ t, getL y es = some (some (.int j t))) : ∃ t, getL y es' = some (some (.int j t)) := let ⟨t, e⟩ := h; ⟨t, P.get hy e⟩
theorem DisA.sub {as as' : List Addr} (D : DisA as) (S : as'.Sublist as) : DisA as' := by
  induction S with
  | slnil => trivial
  | cons a _ ih => exact ih D.2
  | cons_cons a S ih => exact ⟨fun b hb => D.1 b (S.subset hb), ih D.2⟩
inductive ZA2 : Prop
  | mk
namespace segA2_e
noncomputable def zzQ (w : World) (name : Str) (scope : Scope) (body : List Stmt) (L : Addr) (fa : Addr) (b : Addr) (db : Addr) (gt : Addr) (dg : Addr) (mk : Addr) (dm : Addr) (r : Addr) (cc : Addr) (ll : Addr) (d : Addr) (x1 : Addr) (x2 : Addr) (x3 : Addr) (x4 : Addr) (B : Heap) (h0 : Heap) (g : Heap) (h : Heap) (s : Shared) (tk : Nat) (m : Str → Option Value) (es : List DictEntry) (es2 : List DictEntry) (es3 : List DictEntry) (k : Nat) (k2 : Nat) (k3 : Nat) (kc : Nat) (kl : Nat) (v0 : Value) (v1 : Value) (v2 : Value) (v3 : Value) (v4 : Value) (v5 : Value) (v6 : Value) (v7 : Value) (o : Obj) (ca : Obj) (cb : Obj) (ro : Obj) (p1 : Obj) (p2 : Obj) (p3 : Obj) (p4 : Obj) (t0 : Tok) (t1 : Tok) (t2 : Tok) (t3 : Tok) (t4 : Tok) (t5 : Tok) (t6 : Tok) (t7 : Tok) : Prop := ∀ hb : LawIs w name scope body, ∀ X : LawC w B L, ∀ G : Gr B h0 g [], ∀ zBel : Below callerA B [] g, ∀ F : Fr g L h m, ∀ N : News g L h [(ll, listOf ([] : List Value).toArray kl), (r, ro), (mk, instObj 223 dm), (dm, dictOf es3 k3), (cc, listOf [v0, v1, v2, v3, v4, v5, v6, v7].toArray kc), (x1, p1), (x2, p2), (x3, p3), (gt, instObj 525 dg), (dg, dictOf es2 k2), (x4, p4), (b, instObj 631 db), (db, dictOf es k), (d, o), (L + 2, cb), (L + 1, ca), (766, tabObj #[]), (761, tabObj #[]), (754, tabObj #[]), (749, tabObj #[])], ∀ zD : DisA [ll, r, mk, dm, cc, x1, x2, x3, gt, dg, x4, b, db, d, L + 2, L + 1, 766, 761, 754, 749], ∀ hcb : cb.data = .cell (some (.ref b)), ∀ hca : ca.data = .cell (some (.ref d)), ∀ hK : DeckO o, ∀ hlo : (r == sysModules) = false, ∀ hrs : ro.IsDictOf (PySem.strKind Challenge.rw_np0089_01.row.prog w) [], ∀ hfs : PyProof.V.FlatPairs PyData.str [] [], ∀ hfi : PyProof.V.FlatPairs PyData.int [] [], ∀ hri : ro.IsDictOf (intKind Challenge.rw_np0089_01.row.prog w) [], ∀ z1 : es.length ≤ 100, ∀ z2 : es2.length ≤ 100, ∀ f0 : getL (Str.ofString "text") es = some (some (.ref gt)), ∀ f1 : getL (Str.ofString "markers") es = some (some (.ref mk)), ∀ f2 : getL (Str.ofString "is_read_only") es = some (some (.bool false)), ∀ f3 : getL (Str.ofString "undo") es = some (some (.none)), ∀ f4 : getL (Str.ofString "props") es = some (some (.none)), ∀ f5 : getL (Str.ofString "overlays") es = some (some (.none)), ∀ f6 : getL (Str.ofString "listeners") es = some (some (.ref ll)), ∀ f7 : getL (Str.ofString "cells") es2 = some (some (.ref cc)), ∀ f8 : getL (Str.ofString "rows") es3 = some (some (.ref r)), ∀ i0 : getL (Str.ofString "point") es = some (some (.int 1 t0)), ∀ i1 : getL (Str.ofString "begv") es = some (some (.int 1 t1)), ∀ i2 : getL (Str.ofString "zv") es = some (some (.int 1 t2)), ∀ i3 : getL (Str.ofString "ticks") es = some (some (.int 1 t3)), ∀ i4 : getL (Str.ofString "codes_ticks") es = some (some (.int 1 t4)), ∀ i5 : getL (Str.ofString "gap_start") es2 = some (some (.int 0 t5)), ∀ i6 : getL (Str.ofString "gap_end") es2 = some (some (.int 8 t6)), ∀ i7 : getL (Str.ofString "room") es2 = some (some (.int 8 t7)), ∀ n0 : getL (Str.ofString "touch") es = some none, ∀ n1 : getL (Str.ofString "size") es = some none, ∀ n2 : getL (Str.ofString "insert") es2 = some none, ∀ n3 : getL (Str.ofString "widen_gap") es2 = some none, ∀ n4 : getL (Str.ofString "move_gap") es2 = some none, ∀ n5 : getL (Str.ofString "size") es2 = some none, ∀ n6 : getL (Str.ofString "inserted") es3 = some none, ∀ n7 : getL (Str.ofString "numbers") es3 = some none, ∀ n8 : getL (Str.ofString "put") es3 = some none, ∀ hfold : ∀ D : Heap, Std w D → CodeHd D 751 749 → D.get? 749 = none → ∀ {l l2 : Addr} {vs us : List Value} {ns : List Int}, D.IsList l vs.toArray → NumsAt D vs ns → D.IsList l2 us.toArray → IntsAre us ns → Sm ns → CallsT w 350 (.ref 752) [.ref l, .ref l2] D 749 (fun v _ => v = .bool true), wpAny (model Challenge.rw_np0089_01.row.prog w) (callerA.deeper (LawEnv name scope L fa)) (execs (body.drop 2) (LawEnv name scope L fa)) (fun fl s' => LawEnd B L s (flv fl) s') (fun _ _ => False) { s with heap := h, toks := tk }
noncomputable abbrev zzT : Type := World × Str × Scope × (List Stmt) × Addr × Addr × Addr × Addr × Addr × Addr × Addr × Addr × Addr × Addr × Addr × Addr × Addr × Addr × Addr × Addr × Heap × Heap × Heap × Heap × Shared × Nat × (Str → Option Value) × (List DictEntry) × (List DictEntry) × (List DictEntry) × Nat × Nat × Nat × Nat × Nat × Value × Value × Value × Value × Value × Value × Value × Value × Obj × Obj × Obj × Obj × Obj × Obj × Obj × Obj × Tok × Tok × Tok × Tok × Tok × Tok × Tok × Tok
noncomputable def zzS (z : zzT) : Prop := zzQ z.1 z.2.1 z.2.2.1 z.2.2.2.1 z.2.2.2.2.1 z.2.2.2.2.2.1 z.2.2.2.2.2.2.1 z.2.2.2.2.2.2.2.1 z.2.2.2.2.2.2.2.2.1 z.2.2.2.2.2.2.2.2.2.1 z.2.2.2.2.2.2.2.2.2.2.1 z.2.2.2.2.2.2.2.2.2.2.2.1 z.2.2.2.2.2.2.2.2.2.2.2.2.1 z.2.2.2.2.2.2.2.2.2.2.2.2.2.1 z.2.2.2.2.2.2.2.2.2.2.2.2.2.2.1 z.2.2.2.2.2.2.2.2.2.2.2.2.2.2.2.1 z.2.2.2.2.2.2.2.2.2.2.2.2.2.2.2.2.1 z.2.2.2.2.2.2.2.2.2.2.2.2.2.2.2.2.2.1 z.2.2.2.2.2.2.2.2.2.2.2.2.2.2.2.2.2.2.1 z.2.2.2.2.2.2.2.2.2.2.2.2.2.2.2.2.2.2.2.1 z.2.2.2.2.2.2.2.2.2.2.2.2.2.2.2.2.2.2.2.2.1 z.2.2.2.2.2.2.2.2.2.2.2.2.2.2.2.2.2.2.2.2.2.1 z.2.2.2.2.2.2.2.2.2.2.2.2.2.2.2.2.2.2.2.2.2.2.1 z.2.2.2.2.2.2.2.2.2.2.2.2.2.2.2.2.2.2.2.2.2.2.2.1 z.2.2.2.2.2.2.2.2.2.2.2.2.2.2.2.2.2.2.2.2.2.2.2.2.1 z.2.2.2.2.2.2.2.2.2.2.2.2.2.2.2.2.2.2.2.2.2.2.2.2.2.1 z.2.2.2.2.2.2.2.2.2.2.2.2.2.2.2.2.2.2.2.2.2.2.2.2.2.2.1 z.2.2.2.2.2.2.2.2.2.2.2.2.2.2.2.2.2.2.2.2.2.2.2.2.2.2.2.1 z.2.2.2.2.2.2.2.2.2.2.2.2.2.2.2.2.2.2.2.2.2.2.2.2.2.2.2.2.1 z.2.2.2.2.2.2.2.2.2.2.2.2.2.2.2.2.2.2.2.2.2.2.2.2.2.2.2.2.2.1 z.2.2.2.2.2.2.2.2.2.2.2.2.2.2.2.2.2.2.2.2.2.2.2.2.2.2.2.2.2.2.1 z.2.2.2.2.2.2.2.2.2.2.2.2.2.2.2.2.2.2.2.2.2.2.2.2.2.2.2.2.2.2.2.1 z.2.2.2.2.2.2.2.2.2.2.2.2.2.2.2.2.2.2.2.2.2.2.2.2.2.2.2.2.2.2.2.2.1 z.2.2.2.2.2.2.2.2.2.2.2.2.2.2.2.2.2.2.2.2.2.2.2.2.2.2.2.2.2.2.2.2.2.1 z.2.2.2.2.2.2.2.2.2.2.2.2.2.2.2.2.2.2.2.2.2.2.2.2.2.2.2.2.2.2.2.2.2.2.1 z.2.2.2.2.2.2.2.2.2.2.2.2.2.2.2.2.2.2.2.2.2.2.2.2.2.2.2.2.2.2.2.2.2.2.2.1 z.2.2.2.2.2.2.2.2.2.2.2.2.2.2.2.2.2.2.2.2.2.2.2.2.2.2.2.2.2.2.2.2.2.2.2.2.1 z.2.2.2.2.2.2.2.2.2.2.2.2.2.2.2.2.2.2.2.2.2.2.2.2.2.2.2.2.2.2.2.2.2.2.2.2.2.1 z.2.2.2.2.2.2.2.2.2.2.2.2.2.2.2.2.2.2.2.2.2.2.2.2.2.2.2.2.2.2.2.2.2.2.2.2.2.2.1 z.2.2.2.2.2.2.2.2.2.2.2.2.2.2.2.2.2.2.2.2.2.2.2.2.2.2.2.2.2.2.2.2.2.2.2.2.2.2.2.1 z.2.2.2.2.2.2.2.2.2.2.2.2.2.2.2.2.2.2.2.2.2.2.2.2.2.2.2.2.2.2.2.2.2.2.2.2.2.2.2.2.1 z.2.2.2.2.2.2.2.2.2.2.2.2.2.2.2.2.2.2.2.2.2.2.2.2.2.2.2.2.2.2.2.2.2.2.2.2.2.2.2.2.2.1 z.2.2.2.2.2.2.2.2.2.2.2.2.2.2.2.2.2.2.2.2.2.2.2.2.2.2.2.2.2.2.2.2.2.2.2.2.2.2.2.2.2.2.1 z.2.2.2.2.2.2.2.2.2.2.2.2.2.2.2.2.2.2.2.2.2.2.2.2.2.2.2.2.2.2.2.2.2.2.2.2.2.2.2.2.2.2.2.1 z.2.2.2.2.2.2.2.2.2.2.2.2.2.2.2.2.2.2.2.2.2.2.2.2.2.2.2.2.2.2.2.2.2.2.2.2.2.2.2.2.2.2.2.2.1 z.2.2.2.2.2.2.2.2.2.2.2.2.2.2.2.2.2.2.2.2.2.2.2.2.2.2.2.2.2.2.2.2.2.2.2.2.2.2.2.2.2.2.2.2.2.1 z.2.2.2.2.2.2.2.2.2.2.2.2.2.2.2.2.2.2.2.2.2.2.2.2.2.2.2.2.2.2.2.2.2.2.2.2.2.2.2.2.2.2.2.2.2.2.1 z.2.2.2.2.2.2.2.2.2.2.2.2.2.2.2.2.2.2.2.2.2.2.2.2.2.2.2.2.2.2.2.2.2.2.2.2.2.2.2.2.2.2.2.2.2.2.2.1 z.2.2.2.2.2.2.2.2.2.2.2.2.2.2.2.2.2.2.2.2.2.2.2.2.2.2.2.2.2.2.2.2.2.2.2.2.2.2.2.2.2.2.2.2.2.2.2.2.1 z.2.2.2.2.2.2.2.2.2.2.2.2.2.2.2.2.2.2.2.2.2.2.2.2.2.2.2.2.2.2.2.2.2.2.2.2.2.2.2.2.2.2.2.2.2.2.2.2.2.1 z.2.2.2.2.2.2.2.2.2.2.2.2.2.2.2.2.2.2.2.2.2.2.2.2.2.2.2.2.2.2.2.2.2.2.2.2.2.2.2.2.2.2.2.2.2.2.2.2.2.2.1 z.2.2.2.2.2.2.2.2.2.2.2.2.2.2.2.2.2.2.2.2.2.2.2.2.2.2.2.2.2.2.2.2.2.2.2.2.2.2.2.2.2.2.2.2.2.2.2.2.2.2.2.1 z.2.2.2.2.2.2.2.2.2.2.2.2.2.2.2.2.2.2.2.2.2.2.2.2.2.2.2.2.2.2.2.2.2.2.2.2.2.2.2.2.2.2.2.2.2.2.2.2.2.2.2.2.1 z.2.2.2.2.2.2.2.2.2.2.2.2.2.2.2.2.2.2.2.2.2.2.2.2.2.2.2.2.2.2.2.2.2.2.2.2.2.2.2.2.2.2.2.2.2.2.2.2.2.2.2.2.2.1 z.2.2.2.2.2.2.2.2.2.2.2.2.2.2.2.2.2.2.2.2.2.2.2.2.2.2.2.2.2.2.2.2.2.2.2.2.2.2.2.2.2.2.2.2.2.2.2.2.2.2.2.2.2.2.1 z.2.2.2.2.2.2.2.2.2.2.2.2.2.2.2.2.2.2.2.2.2.2.2.2.2.2.2.2.2.2.2.2.2.2.2.2.2.2.2.2.2.2.2.2.2.2.2.2.2.2.2.2.2.2.2.1 z.2.2.2.2.2.2.2.2.2.2.2.2.2.2.2.2.2.2.2.2.2.2.2.2.2.2.2.2.2.2.2.2.2.2.2.2.2.2.2.2.2.2.2.2.2.2.2.2.2.2.2.2.2.2.2.2.1 z.2.2.2.2.2.2.2.2.2.2.2.2.2.2.2.2.2.2.2.2.2.2.2.2.2.2.2.2.2.2.2.2.2.2.2.2.2.2.2.2.2.2.2.2.2.2.2.2.2.2.2.2.2.2.2.2.2.1 z.2.2.2.2.2.2.2.2.2.2.2.2.2.2.2.2.2.2.2.2.2.2.2.2.2.2.2.2.2.2.2.2.2.2.2.2.2.2.2.2.2.2.2.2.2.2.2.2.2.2.2.2.2.2.2.2.2.2
noncomputable def zzc : zzT := @Classical.epsilon zzT ⟨(zw, cN, cN, cN, cN, cN, cN, cN, cN, cN, cN, cN, cN, cN, cN, cN, cN, cN, cN, cN, cN, cN, cN, cN, zs, cN, cN, cN, cN, cN, cN, cN, cN, cN, cN, cN, cN, cN, cN, cN, cN, cN, cN, cN, cN, cN, cN, cN, cN, cN, cN, cN, cN, cN, cN, cN, cN, cN, cN)⟩ fun z => ¬ zzS z
theorem zzcore : zzS zzc := by
 k_with "e_q" =>
  show zzQ _ _ _ _ _ _ _ _ _ _ _ _ _ _ _ _ _ _ _ _ _ _ _ _ _ _ _ _ _ _ _ _ _ _ _ _ _ _ _ _ _ _ _ _ _ _ _ _ _ _ _ _ _ _ _ _ _ _ _
  generalize zzc.1 = w; generalize zzc.2.1 = name; generalize zzc.2.2.1 = scope; generalize zzc.2.2.2.1 = body; generalize zzc.2.2.2.2.1 = L; generalize zzc.2.2.2.2.2.1 = fa; generalize zzc.2.2.2.2.2.2.1 = b; generalize zzc.2.2.2.2.2.2.2.1 = db; generalize zzc.2.2.2.2.2.2.2.2.1 = gt; generalize zzc.2.2.2.2.2.2.2.2.2.1 = dg; generalize zzc.2.2.2.2.2.2.2.2.2.2.1 = mk; generalize zzc.2.2.2.2.2.2.2.2.2.2.2.1 = dm; generalize zzc.2.2.2.2.2.2.2.2.2.2.2.2.1 = r; generalize zzc.2.2.2.2.2.2.2.2.2.2.2.2.2.1 = cc; generalize zzc.2.2.2.2.2.2.2.2.2.2.2.2.2.2.1 = ll; generalize zzc.2.2.2.2.2.2.2.2.2.2.2.2.2.2.2.1 = d; generalize zzc.2.2.2.2.2.2.2.2.2.2.2.2.2.2.2.2.1 = x1; generalize zzc.2.2.2.2.2.2.2.2.2.2.2.2.2.2.2.2.2.1 = x2; generalize zzc.2.2.2.2.2.2.2.2.2.2.2.2.2.2.2.2.2.2.1 = x3; generalize zzc.2.2.2.2.2.2.2.2.2.2.2.2.2.2.2.2.2.2.2.1 = x4; generalize zzc.2.2.2.2.2.2.2.2.2.2.2.2.2.2.2.2.2.2.2.2.1 = B; generalize zzc.2.2.2.2.2.2.2.2.2.2.2.2.2.2.2.2.2.2.2.2.2.1 = h0; generalize zzc.2.2.2.2.2.2.2.2.2.2.2.2.2.2.2.2.2.2.2.2.2.2.1 = g; generalize zzc.2.2.2.2.2.2.2.2.2.2.2.2.2.2.2.2.2.2.2.2.2.2.2.1 = h; generalize zzc.2.2.2.2.2.2.2.2.2.2.2.2.2.2.2.2.2.2.2.2.2.2.2.2.1 = s; generalize zzc.2.2.2.2.2.2.2.2.2.2.2.2.2.2.2.2.2.2.2.2.2.2.2.2.2.1 = tk; generalize zzc.2.2.2.2.2.2.2.2.2.2.2.2.2.2.2.2.2.2.2.2.2.2.2.2.2.2.1 = m; generalize zzc.2.2.2.2.2.2.2.2.2.2.2.2.2.2.2.2.2.2.2.2.2.2.2.2.2.2.2.1 = es; generalize zzc.2.2.2.2.2.2.2.2.2.2.2.2.2.2.2.2.2.2.2.2.2.2.2.2.2.2.2.2.1 = es2; generalize zzc.2.2.2.2.2.2.2.2.2.2.2.2.2.2.2.2.2.2.2.2.2.2.2.2.2.2.2.2.2.1 = es3; generalize zzc.2.2.2.2.2.2.2.2.2.2.2.2.2.2.2.2.2.2.2.2.2.2.2.2.2.2.2.2.2.2.1 = k; generalize zzc.2.2.2.2.2.2.2.2.2.2.2.2.2.2.2.2.2.2.2.2.2.2.2.2.2.2.2.2.2.2.2.1 = k2; generalize zzc.2.2.2.2.2.2.2.2.2.2.2.2.2.2.2.2.2.2.2.2.2.2.2.2.2.2.2.2.2.2.2.2.1 = k3; generalize zzc.2.2.2.2.2.2.2.2.2.2.2.2.2.2.2.2.2.2.2.2.2.2.2.2.2.2.2.2.2.2.2.2.2.1 = kc; generalize zzc.2.2.2.2.2.2.2.2.2.2.2.2.2.2.2.2.2.2.2.2.2.2.2.2.2.2.2.2.2.2.2.2.2.2.1 = kl; generalize zzc.2.2.2.2.2.2.2.2.2.2.2.2.2.2.2.2.2.2.2.2.2.2.2.2.2.2.2.2.2.2.2.2.2.2.2.1 = v0; generalize zzc.2.2.2.2.2.2.2.2.2.2.2.2.2.2.2.2.2.2.2.2.2.2.2.2.2.2.2.2.2.2.2.2.2.2.2.2.1 = v1; generalize zzc.2.2.2.2.2.2.2.2.2.2.2.2.2.2.2.2.2.2.2.2.2.2.2.2.2.2.2.2.2.2.2.2.2.2.2.2.2.1 = v2; generalize zzc.2.2.2.2.2.2.2.2.2.2.2.2.2.2.2.2.2.2.2.2.2.2.2.2.2.2.2.2.2.2.2.2.2.2.2.2.2.2.1 = v3; generalize zzc.2.2.2.2.2.2.2.2.2.2.2.2.2.2.2.2.2.2.2.2.2.2.2.2.2.2.2.2.2.2.2.2.2.2.2.2.2.2.2.1 = v4; generalize zzc.2.2.2.2.2.2.2.2.2.2.2.2.2.2.2.2.2.2.2.2.2.2.2.2.2.2.2.2.2.2.2.2.2.2.2.2.2.2.2.2.1 = v5; generalize zzc.2.2.2.2.2.2.2.2.2.2.2.2.2.2.2.2.2.2.2.2.2.2.2.2.2.2.2.2.2.2.2.2.2.2.2.2.2.2.2.2.2.1 = v6; generalize zzc.2.2.2.2.2.2.2.2.2.2.2.2.2.2.2.2.2.2.2.2.2.2.2.2.2.2.2.2.2.2.2.2.2.2.2.2.2.2.2.2.2.2.1 = v7; generalize zzc.2.2.2.2.2.2.2.2.2.2.2.2.2.2.2.2.2.2.2.2.2.2.2.2.2.2.2.2.2.2.2.2.2.2.2.2.2.2.2.2.2.2.2.1 = o; generalize zzc.2.2.2.2.2.2.2.2.2.2.2.2.2.2.2.2.2.2.2.2.2.2.2.2.2.2.2.2.2.2.2.2.2.2.2.2.2.2.2.2.2.2.2.2.1 = ca; generalize zzc.2.2.2.2.2.2.2.2.2.2.2.2.2.2.2.2.2.2.2.2.2.2.2.2.2.2.2.2.2.2.2.2.2.2.2.2.2.2.2.2.2.2.2.2.2.1 = cb; generalize zzc.2.2.2.2.2.2.2.2.2.2.2.2.2.2.2.2.2.2.2.2.2.2.2.2.2.2.2.2.2.2.2.2.2.2.2.2.2.2.2.2.2.2.2.2.2.2.1 = ro; generalize zzc.2.2.2.2.2.2.2.2.2.2.2.2.2.2.2.2.2.2.2.2.2.2.2.2.2.2.2.2.2.2.2.2.2.2.2.2.2.2.2.2.2.2.2.2.2.2.2.1 = p1; generalize zzc.2.2.2.2.2.2.2.2.2.2.2.2.2.2.2.2.2.2.2.2.2.2.2.2.2.2.2.2.2.2.2.2.2.2.2.2.2.2.2.2.2.2.2.2.2.2.2.2.1 = p2; generalize zzc.2.2.2.2.2.2.2.2.2.2.2.2.2.2.2.2.2.2.2.2.2.2.2.2.2.2.2.2.2.2.2.2.2.2.2.2.2.2.2.2.2.2.2.2.2.2.2.2.2.1 = p3; generalize zzc.2.2.2.2.2.2.2.2.2.2.2.2.2.2.2.2.2.2.2.2.2.2.2.2.2.2.2.2.2.2.2.2.2.2.2.2.2.2.2.2.2.2.2.2.2.2.2.2.2.2.1 = p4; generalize zzc.2.2.2.2.2.2.2.2.2.2.2.2.2.2.2.2.2.2.2.2.2.2.2.2.2.2.2.2.2.2.2.2.2.2.2.2.2.2.2.2.2.2.2.2.2.2.2.2.2.2.2.1 = t0; generalize zzc.2.2.2.2.2.2.2.2.2.2.2.2.2.2.2.2.2.2.2.2.2.2.2.2.2.2.2.2.2.2.2.2.2.2.2.2.2.2.2.2.2.2.2.2.2.2.2.2.2.2.2.2.1 = t1; generalize zzc.2.2.2.2.2.2.2.2.2.2.2.2.2.2.2.2.2.2.2.2.2.2.2.2.2.2.2.2.2.2.2.2.2.2.2.2.2.2.2.2.2.2.2.2.2.2.2.2.2.2.2.2.2.1 = t2; generalize zzc.2.2.2.2.2.2.2.2.2.2.2.2.2.2.2.2.2.2.2.2.2.2.2.2.2.2.2.2.2.2.2.2.2.2.2.2.2.2.2.2.2.2.2.2.2.2.2.2.2.2.2.2.2.2.1 = t3; generalize zzc.2.2.2.2.2.2.2.2.2.2.2.2.2.2.2.2.2.2.2.2.2.2.2.2.2.2.2.2.2.2.2.2.2.2.2.2.2.2.2.2.2.2.2.2.2.2.2.2.2.2.2.2.2.2.2.1 = t4; generalize zzc.2.2.2.2.2.2.2.2.2.2.2.2.2.2.2.2.2.2.2.2.2.2.2.2.2.2.2.2.2.2.2.2.2.2.2.2.2.2.2.2.2.2.2.2.2.2.2.2.2.2.2.2.2.2.2.2.1 = t5; generalize zzc.2.2.2.2.2.2.2.2.2.2.2.2.2.2.2.2.2.2.2.2.2.2.2.2.2.2.2.2.2.2.2.2.2.2.2.2.2.2.2.2.2.2.2.2.2.2.2.2.2.2.2.2.2.2.2.2.2.1 = t6; generalize zzc.2.2.2.2.2.2.2.2.2.2.2.2.2.2.2.2.2.2.2.2.2.2.2.2.2.2.2.2.2.2.2.2.2.2.2.2.2.2.2.2.2.2.2.2.2.2.2.2.2.2.2.2.2.2.2.2.2.2 = t7
  intro hb X G zBel F N zD hcb hca hK hlo hrs hfs hfi hri z1 z2 f0 f1 f2 f3 f4 f5 f6 f7 f8 i0 i1 i2 i3 i4 i5 i6 i7 n0 n1 n2 n3 n4 n5 n6 n7 n8 hfold
  have zOn : ZOn := .mk
  refine hb.begin (P := fun name scope body => wpAny (model Challenge.rw_np0089_01.row.prog w) (callerA.deeper (LawEnv name scope L fa)) (execs (body.drop 2) (LawEnv name scope L fa)) (fun fl s' => LawEnd B L s (flv fl) s') (fun _ _ => False) { s with heap := h, toks := tk }) (by k_is) fun hb' => ?_
  dsimp only [List.drop]
  replace N : News g L h [(ll, listOf ([] : List Value).toArray kl), (r, ro), (mk, instObj 223 dm), (dm, dictOf es3 k3), (cc, listOf [v0, v1, v2, v3, v4, v5, v6, v7].toArray kc), (gt, instObj 525 dg), (dg, dictOf es2 k2), (b, instObj 631 db), (db, dictOf es k), (d, o), (L + 2, cb), (L + 1, ca), (766, tabObj #[]), (761, tabObj #[]), (754, tabObj #[]), (749, tabObj #[])] := News.part N (by lcg_sub)
  replace zD : DisA [ll, r, mk, dm, cc, gt, dg, b, db, d, L + 2, L + 1, 766, 761, 754, 749] := DisA.sub zD (by repeat' (first | exact List.Sublist.slnil | refine' List.Sublist.cons_cons _ ?_ | refine' List.Sublist.cons _ ?_))
  have SB := X.S
  have hBL := X.le
  have hlt := X.lt
  have S : Std w g := SB.keeps G.base
  have zX := Std.X S
  have zT := Std.top S
  have zA2 : ZA2 := .mk
  k_with "k_lt" => ((with_reducible rename ZA2 => zA2); with_reducible rename DisA _ => zD9)
  k_with "k_upd" => ((with_reducible rename ZA2 => zA2); refine' updDA (by with_reducible assumption) (by rfl) ?_; repeat' (first | exact UpdS.head | refine' UpdS.tail ?_))
  k_with "k_updF" => ((with_reducible rename ZA2 => zA2); refine' updFDA (by with_reducible assumption) (by rfl) ?_; repeat' (first | exact UpdSF.head | refine' UpdSF.tail ?_))
  k_with "k_ne" => ((with_reducible rename ZA2 => zA2); (with_reducible rename DisA _ => zD9); first | (focus (refine' DisA.ne zD9 ?_; (repeat' (first | refine' AheadL.here ?_ | refine' AheadL.skip ?_ | exact InL.head | refine' InL.tail ?_)); done)) | (focus (refine' DisA.ne' zD9 ?_; (repeat' (first | refine' AheadL.here ?_ | refine' AheadL.skip ?_ | exact InL.head | refine' InL.tail ?_)); done)))
  k_with "d_desc" => ((with_reducible rename ZA2 => zA2); (with_reducible rename DisA _ => zD9); (with_reducible rename News _ _ _ _ => zN9); (fail_if_success (have zq9 := disA_for zN9 zD9 (by rfl))); (first | have zD8 := disA_for zN9 (DisA.lt zD9 (by with_reducible assumption) (by rfl)) (by rfl) | have zD8 := disA_for zN9 (DisA.cons zD9 (by with_reducible assumption) (by rfl)) (by rfl) | have zD8 := disA_for zN9 (DisA.two zD9 (by with_reducible assumption) (by with_reducible assumption) (by rfl)) (by rfl)); clear zD9)
  k_with "k_get" => ((with_reducible rename ZA2 => zA2); (first | with_reducible assumption | exact Put.self (by with_reducible assumption) | (refine' Put.get (by with_reducible assumption) (by decide) ?_; k_get) | exact isSome_of (by k_get)))
  k_with "newTuple" => ((with_reducible rename ZA2 => zA2); k_here; k_dflt (k_extra "FN"; (refine kup_newTuple (by exact lF') (by exact lN') ?_ (by first | size_fits | decide); (first | (k_extra "m_on"; refine epsT2 ?_; generalize pj1 _ = zD8; generalize pl2 _ = zh'; intro zF' zN' l1) | intro zD8 zh' zF' zN' l1)); (try k_lt l1); (try k_sweep)))
  k_with "subscriptTail Name Slice ref ref" => ((with_reducible rename ZA2 => zA2); k_extra "m_on"; k_here; (with_reducible show wpAny _ _ (subscriptTail _ (PySem.Expr.Slice _ _ none _) (Value.ref _) (Value.ref _)) _ _ _); k_dflt (refine kms_slice_lit (by k_asm) (by k_asm) (by kmk_list) (by kmk_part) (by kmk_part) (by kl_lit) ?_ (by with_unfolding_all rfl) (by kmk_pure) (by kmk_size); k_extra "e_58"); (try k_lt l1); (try k_sweep))
  k_with "pyIter ref" => ((with_reducible rename ZA2 => zA2); (with_reducible rename ZOn => zOn); (fail_if_success (clear zGo)); have zGo := True.intro; (first | k_listUnr | walk_at "pyIter ref"); clear zGo; (first | (with_reducible show wpAny _ _ (pyIter _) _ _ _) | ((with_reducible rename Addr => zq1); (revert zq1); k_extra "m_lp")))
  k_with "ListRest" => ((with_reducible rename ZA2 => zA2); (with_reducible rename ZOn => zOn); (fail_if_success (clear zGo)); have zGo := True.intro; walk_at "ListRest"; clear zGo; (with_reducible rename Heap => zq2); (with_reducible rename Nat => zq3); (revert zq2 zq3); k_extra "m_lp")
  k_with "call builtin:sorted" => ((with_reducible rename ZA2 => zA2); (with_reducible rename ZOn => zOn); (fail_if_success (clear zGo)); have zGo := True.intro; walk_at "call builtin:sorted"; clear zGo; (with_reducible rename Heap => zq2); (with_reducible rename Nat => zq3); (revert zq3); (with_reducible rename Addr => zq1); (revert zq1 zq2); k_extra "m_lp")
  k_with "call builtin:list.sort" => ((with_reducible rename ZA2 => zA2); (with_reducible rename ZOn => zOn); (fail_if_success (clear zGo)); have zGo := True.intro; walk_at "call builtin:list.sort"; clear zGo; (with_reducible rename Heap => zq2); (with_reducible rename Nat => zq3); (with_reducible rename List Value => zq4); (with_reducible rename List Int => zq5); (revert zq4 zq5 zq3 zq2); k_extra "m_lp")
  k_with "k_getE" => ((with_reducible rename ZA2 => zA2); (first | exact Put.selfE (by with_reducible assumption) (by rfl) | (refine Put.getE (by with_reducible assumption) (by decide) ?_; k_extra "k_getE")))
  k_with "setAttr ref" => ((with_reducible rename ZA2 => zA2); k_here; k_dflt ((with_reducible rename DisA _ => zD9); k_extra "FN"; (refine set_dictO (by exact lF') (by k_asm) (by exact lN') (by k_mem) (by repeat' (first | exact UpdSF.head | refine' UpdSF.tail ?_)) (by exact zD9) (by rfl) (by k_is) (by k_is) (by k_is) (by k_is) (by k_get) (by first | omega | (have zq1 := Put.len (by assumption); omega) | (have zq1 := (by assumption : _ ≤ 900); omega)) ?_; (first | (k_extra "m_on"; refine epsT4 ?_; generalize pj1 _ = zh'; generalize pj2 _ = ztk'; generalize pj3 _ = zes'; generalize pl4 _ = zn'; intro zF' zN' zP') | intro zh' ztk' zes' zn' zF' zN' zP')); (have zle' := Put.len zP'); (try k_sweep)))
  k_with "m_seg" => ((with_reducible show wpAny _ _ (execs (Stmt.Assign [Expr.Name _ ⟨474, 4, 474, 9⟩] _ _ :: _) _) _ _ _); k_extra "FN"; refine segB2 hb' X G (by exact lF') (by exact lN') (by k_mem) (by exact hcb) (by k_mem) (by k_mem) (by k_get) (by k_get) (by k_get) (by k_mem) (by k_mem) (by k_get) (by k_extra "k_getE") (by k_extra "k_getE") (by k_get) (by k_mem) (by k_mem) (by k_get) (by k_get) (by k_mem) (by rfl) (by k_mem) ⟨[], by exact hri, Nat.le_refl _⟩ (by k_mem) (by exact hca) (by k_mem) hK (by lcg_sub) (by k_ne) (by repeat' (first | exact List.forall_mem_nil _ | refine List.forall_mem_cons.mpr ⟨⟨by k_ne, by k_ne⟩, ?_⟩)) hfold)
  k_steps
 k_extra "e_Q"
end segA2_e
theorem segA2 {w : World} {name : Str} {scope : Scope} {body : List Stmt} {L fa b db gt dg mk dm r cc ll d x1 x2 x3 x4 : Addr} {B h0 g h : Heap} {s : Shared} {tk : Nat} {m : Str → Option Value} {es es2 es3 : List DictEntry} {k k2 k3 kc kl : Nat} {v0 v1 v2 v3 v4 v5 v6 v7 : Value} {o ca cb ro p1 p2 p3 p4 : Obj} {t0 t1 t2 t3 t4 t5 t6 t7 : Tok} (hb : LawIs w name scope body) (X : LawC w B L) (G : Gr B h0 g []) (zBel : Below callerA B [] g) (F : Fr g L h m)
    (N : News g L h [(ll, listOf ([] : List Value).toArray kl), (r, ro), (mk, instObj 223 dm), (dm, dictOf es3 k3), (cc, listOf [v0, v1, v2, v3, v4, v5, v6, v7].toArray kc), (x1, p1), (x2, p2), (x3, p3), (gt, instObj 525 dg), (dg, dictOf es2 k2), (x4, p4), (b, instObj 631 db), (db, dictOf es k), (d, o), (L + 2, cb), (L + 1, ca), (766, tabObj #[]), (761, tabObj #[]), (754, tabObj #[]), (749, tabObj #[])]) (zD : DisA [ll, r, mk, dm, cc, x1, x2, x3, gt, dg, x4, b, db, d, L + 2, L + 1, 766, 761, 754, 749]) (hcb : cb.data = .cell (some (.ref b))) (hca : ca.data = .cell (some (.ref d))) (hK : DeckO o) (hlo : (r == sysModules) = false) (hrs : ro.IsDictOf (PySem.strKind Challenge.rw_np0089_01.row.prog w) []) (hfs : PyProof.V.FlatPairs PyData.str [] []) (hfi : PyProof.V.FlatPairs PyData.int [] []) (hri : ro.IsDictOf (intKind Challenge.rw_np0089_01.row.prog w) []) (z1 : es.length ≤ 100) (z2 : es2.length ≤ 100)
    (f0 : getL (Str.ofString "text") es = some (some (.ref gt))) (f1 : getL (Str.ofString "markers") es = some (some (.ref mk))) (f2 : getL (Str.ofString "is_read_only") es = some (some (.bool false))) (f3 : getL (Str.ofString "undo") es = some (some (.none))) (f4 : getL (Str.ofString "props") es = some (some (.none))) (f5 : getL (Str.ofString "overlays") es = some (some (.none))) (f6 : getL (Str.ofString "listeners") es = some (some (.ref ll))) (f7 : getL (Str.ofString "cells") es2 = some (some (.ref cc))) (f8 : getL (Str.ofString "rows") es3 = some (some (.ref r))) (i0 : getL (Str.ofString "point") es = some (some (.int 1 t0))) (i1 : getL (Str.ofString "begv") es = some (some (.int 1 t1))) (i2 : getL (Str.ofString "zv") es = some (some (.int 1 t2))) (i3 : getL (Str.ofString "ticks") es = some (some (.int 1 t3))) (i4 : getL (Str.ofString "codes_ticks") es = some (some (.int 1 t4))) (i5 : getL (Str.ofString "gap_start") es2 = some (some (.int 0 t5))) (i6 : getL (Str.ofString "gap_end") es2 = some (some (.int 8 t6))) (i7 : getL (Str.ofString "room") es2 = some (some (.int 8 t7))) (n0 : getL (Str.ofString "touch") es = some none) (n1 : getL (Str.ofString "size") es = some none) (n2 : getL (Str.ofString "insert") es2 = some none) (n3 : getL (Str.ofString "widen_gap") es2 = some none) (n4 : getL (Str.ofString "move_gap") es2 = some none) (n5 : getL (Str.ofString "size") es2 = some none) (n6 : getL (Str.ofString "inserted") es3 = some none) (n7 : getL (Str.ofString "numbers") es3 = some none) (n8 : getL (Str.ofString "put") es3 = some none)
    (hfold : ∀ D : Heap, Std w D → CodeHd D 751 749 → D.get? 749 = none → ∀ {l l2 : Addr} {vs us : List Value} {ns : List Int}, D.IsList l vs.toArray → NumsAt D vs ns → D.IsList l2 us.toArray → IntsAre us ns → Sm ns → CallsT w 350 (.ref 752) [.ref l, .ref l2] D 749 (fun v _ => v = .bool true)) : wpAny (model Challenge.rw_np0089_01.row.prog w) (callerA.deeper (LawEnv name scope L fa)) (execs (body.drop 2) (LawEnv name scope L fa)) (fun fl s' => LawEnd B L s (flv fl) s') (fun _ _ => False) { s with heap := h, toks := tk } := epsU (P := segA2_e.zzS) (by with_unfolding_all exact segA2_e.zzcore) (w, name, scope, body, L, fa, b, db, gt, dg, mk, dm, r, cc, ll, d, x1, x2, x3, x4, B, h0, g, h, s, tk, m, es, es2, es3, k, k2, k3, kc, kl, v0, v1, v2, v3, v4, v5, v6, v7, o, ca, cb, ro, p1, p2, p3, p4, t0, t1, t2, t3, t4, t5, t6, t7) hb X G zBel F N zD hcb hca hK hlo hrs hfs hfi hri z1 z2 f0 f1 f2 f3 f4 f5 f6 f7 f8 i0 i1 i2 i3 i4 i5 i6 i7 n0 n1 n2 n3 n4 n5 n6 n7 n8 hfold
end Mine.Internal
namespace Mine.Internal
theorem dis6 {L : Addr} {c1 c2 o1 o2 o3 o4 : Obj} (h : @LT.lt Nat _ 766 L) : Dis [(L + 2, c2), (L + 1, c1), (766, o1), (761, o2), (754, o3), (749, o4)] := by
  refine ⟨?_, ?_, ?_, ?_, ?_, ?_, trivial⟩ <;> (intro q hq e; simp only [List.mem_cons, List.not_mem_nil, or_false] at hq)
  · rcases hq with rfl | rfl | rfl | rfl | rfl <;> (simp only [] at e; omega)
  · rcases hq with rfl | rfl | rfl | rfl <;> (simp only [] at e; omega)
  · rcases hq with rfl | rfl | rfl <;> (simp at e)
  · rcases hq with rfl | rfl <;> (simp at e)
  · subst hq; simp at e
namespace segA_e
noncomputable def zzQ (w : World) (name : Str) (scope : Scope) (body : List Stmt) (L : Addr) (fa : Addr) (l : Addr) (B : Heap) (h0 : Heap) (g : Heap) (h : Heap) (s : Shared) (tk : Nat) (m : Str → Option Value) (cA : Obj) (cB : Obj) (vs : List Value) (ns : List Int) : Prop := ∀ hb : LawIs w name scope body, ∀ X : LawC w B L, ∀ G : Gr B h0 g [], ∀ zBel : Below callerA B [] g, ∀ F : Fr g L h fun y => if y = Str.ofString "script" then some (.ref l) else m y, ∀ N : News g L h [(L + 2, cB), (L + 1, cA), (766, tabObj #[]), (761, tabObj #[]), (754, tabObj #[]), (749, tabObj #[])], ∀ hcA : cA.data = .cell none, ∀ hcB : cB.data = .cell none, ∀ zlg : g.IsList l vs.toArray, ∀ I : IntsAre vs ns, ∀ hlen : vs.length ≤ 63, ∀ hfold : ∀ D : Heap, Std w D → CodeHd D 751 749 → D.get? 749 = none → ∀ {l l2 : Addr} {vs us : List Value} {ns : List Int}, D.IsList l vs.toArray → NumsAt D vs ns → D.IsList l2 us.toArray → IntsAre us ns → Sm ns → CallsT w 350 (.ref 752) [.ref l, .ref l2] D 749 (fun v _ => v = .bool true), wpAny (model Challenge.rw_np0089_01.row.prog w) (callerA.deeper (LawEnv name scope L fa)) (execs body (LawEnv name scope L fa)) (fun fl s' => LawEnd B L s (flv fl) s') (fun _ _ => False) { s with heap := h, toks := tk }
noncomputable abbrev zzT : Type := World × Str × Scope × (List Stmt) × Addr × Addr × Addr × Heap × Heap × Heap × Heap × Shared × Nat × (Str → Option Value) × Obj × Obj × (List Value) × (List Int)
noncomputable def zzS (z : zzT) : Prop := zzQ z.1 z.2.1 z.2.2.1 z.2.2.2.1 z.2.2.2.2.1 z.2.2.2.2.2.1 z.2.2.2.2.2.2.1 z.2.2.2.2.2.2.2.1 z.2.2.2.2.2.2.2.2.1 z.2.2.2.2.2.2.2.2.2.1 z.2.2.2.2.2.2.2.2.2.2.1 z.2.2.2.2.2.2.2.2.2.2.2.1 z.2.2.2.2.2.2.2.2.2.2.2.2.1 z.2.2.2.2.2.2.2.2.2.2.2.2.2.1 z.2.2.2.2.2.2.2.2.2.2.2.2.2.2.1 z.2.2.2.2.2.2.2.2.2.2.2.2.2.2.2.1 z.2.2.2.2.2.2.2.2.2.2.2.2.2.2.2.2.1 z.2.2.2.2.2.2.2.2.2.2.2.2.2.2.2.2.2
noncomputable def zzc : zzT := @Classical.epsilon zzT ⟨(zw, cN, cN, cN, cN, cN, cN, cN, cN, cN, cN, zs, cN, cN, cN, cN, cN, cN)⟩ fun z => ¬ zzS z
theorem zzcore : zzS zzc := by
 k_with "e_q" =>
  show zzQ _ _ _ _ _ _ _ _ _ _ _ _ _ _ _ _ _ _
  generalize zzc.1 = w; generalize zzc.2.1 = name; generalize zzc.2.2.1 = scope; generalize zzc.2.2.2.1 = body; generalize zzc.2.2.2.2.1 = L; generalize zzc.2.2.2.2.2.1 = fa; generalize zzc.2.2.2.2.2.2.1 = l; generalize zzc.2.2.2.2.2.2.2.1 = B; generalize zzc.2.2.2.2.2.2.2.2.1 = h0; generalize zzc.2.2.2.2.2.2.2.2.2.1 = g; generalize zzc.2.2.2.2.2.2.2.2.2.2.1 = h; generalize zzc.2.2.2.2.2.2.2.2.2.2.2.1 = s; generalize zzc.2.2.2.2.2.2.2.2.2.2.2.2.1 = tk; generalize zzc.2.2.2.2.2.2.2.2.2.2.2.2.2.1 = m; generalize zzc.2.2.2.2.2.2.2.2.2.2.2.2.2.2.1 = cA; generalize zzc.2.2.2.2.2.2.2.2.2.2.2.2.2.2.2.1 = cB; generalize zzc.2.2.2.2.2.2.2.2.2.2.2.2.2.2.2.2.1 = vs; generalize zzc.2.2.2.2.2.2.2.2.2.2.2.2.2.2.2.2.2 = ns
  intro hb X G zBel F N hcA hcB zlg I hlen hfold
  have zOn : ZOn := .mk
  refine hb.begin (P := fun name scope body => wpAny (model Challenge.rw_np0089_01.row.prog w) (callerA.deeper (LawEnv name scope L fa)) (execs body (LawEnv name scope L fa)) (fun fl s' => LawEnd B L s (flv fl) s') (fun _ _ => False) { s with heap := h, toks := tk }) (by k_is) fun hb' => ?_
  have SB := X.S
  have hBL := X.le
  have hlt := X.lt
  have S : Std w g := SB.keeps G.base
  have zX := Std.X S
  have zT := Std.top S
  have zD : DisA [L + 2, L + 1, 766, 761, 754, 749] := DisA.of (dis6 (c1 := cA) (c2 := cB) (o1 := tabObj #[]) (o2 := tabObj #[]) (o3 := tabObj #[]) (o4 := tabObj #[]) hlt) rfl
  k_with "m_seg" => ((with_reducible show wpAny _ _ (execs (Stmt.Expr _ ⟨473, 4, 473, 35⟩ :: _) _) _ _ _); k_extra "FN"; (with_reducible rename DisA _ => zD9); exact segA2 hb' X G zBel (by exact lF') (by exact lN') (by exact zD9) (by first | with_reducible assumption | assumption) (by first | with_reducible assumption | assumption) (DeckO.of (by with_reducible assumption)) (by with_reducible assumption) (by with_reducible assumption) (by with_reducible assumption) (by with_reducible assumption) (by with_reducible assumption) (by exact Nat.le_of_ble_eq_true rfl) (by exact Nat.le_of_ble_eq_true rfl) (by rfl) (by rfl) (by rfl) (by rfl) (by rfl) (by rfl) (by rfl) (by rfl) (by rfl) (by rfl) (by rfl) (by rfl) (by rfl) (by rfl) (by rfl) (by rfl) (by rfl) (by rfl) (by rfl) (by rfl) (by rfl) (by rfl) (by rfl) (by rfl) (by rfl) (by rfl) hfold)
  k_with "k_lt" => (with_reducible rename DisA _ => zD9)
  k_with "k_upd" => (refine' updDA (by with_reducible assumption) (by rfl) ?_; repeat' (first | exact UpdS.head | refine' UpdS.tail ?_))
  k_with "k_updF" => (refine' updFDA (by with_reducible assumption) (by rfl) ?_; repeat' (first | exact UpdSF.head | refine' UpdSF.tail ?_))
  k_with "k_ne" => ((with_reducible rename DisA _ => zD9); first | (focus (refine' DisA.ne zD9 ?_; (repeat' (first | refine' AheadL.here ?_ | refine' AheadL.skip ?_ | exact InL.head | refine' InL.tail ?_)); done)) | (focus (refine' DisA.ne' zD9 ?_; (repeat' (first | refine' AheadL.here ?_ | refine' AheadL.skip ?_ | exact InL.head | refine' InL.tail ?_)); done)))
  k_with "d_desc" => ((with_reducible rename DisA _ => zD9); (with_reducible rename News _ _ _ _ => zN9); (fail_if_success (have zq9 := disA_for zN9 zD9 (by rfl))); (first | have zD8 := disA_for zN9 (DisA.lt zD9 (by with_reducible assumption) (by rfl)) (by rfl) | have zD8 := disA_for zN9 (DisA.cons zD9 (by with_reducible assumption) (by rfl)) (by rfl) | have zD8 := disA_for zN9 (DisA.two zD9 (by with_reducible assumption) (by with_reducible assumption) (by rfl)) (by rfl)); clear zD9)
  k_steps
 k_extra "e_Q"
end segA_e
theorem segA {w : World} {name : Str} {scope : Scope} {body : List Stmt} {L fa l : Addr} {B h0 g h : Heap} {s : Shared} {tk : Nat} {m : Str → Option Value} {cA cB : Obj} {vs : List Value} {ns : List Int} (hb : LawIs w name scope body) (X : LawC w B L) (G : Gr B h0 g []) (zBel : Below callerA B [] g) (F : Fr g L h fun y => if y = Str.ofString "script" then some (.ref l) else m y)
    (N : News g L h [(L + 2, cB), (L + 1, cA), (766, tabObj #[]), (761, tabObj #[]), (754, tabObj #[]), (749, tabObj #[])]) (hcA : cA.data = .cell none) (hcB : cB.data = .cell none) (zlg : g.IsList l vs.toArray) (I : IntsAre vs ns) (hlen : vs.length ≤ 63)
    (hfold : ∀ D : Heap, Std w D → CodeHd D 751 749 → D.get? 749 = none → ∀ {l l2 : Addr} {vs us : List Value} {ns : List Int}, D.IsList l vs.toArray → NumsAt D vs ns → D.IsList l2 us.toArray → IntsAre us ns → Sm ns → CallsT w 350 (.ref 752) [.ref l, .ref l2] D 749 (fun v _ => v = .bool true)) : wpAny (model Challenge.rw_np0089_01.row.prog w) (callerA.deeper (LawEnv name scope L fa)) (execs body (LawEnv name scope L fa)) (fun fl s' => LawEnd B L s (flv fl) s') (fun _ _ => False) { s with heap := h, toks := tk } := epsU (P := segA_e.zzS) (by with_unfolding_all exact segA_e.zzcore) (w, name, scope, body, L, fa, l, B, h0, g, h, s, tk, m, cA, cB, vs, ns) hb X G zBel F N hcA hcB zlg I hlen hfold
end Mine.Internal
namespace Mine.Internal
theorem folded_all {w : World} (D : Heap) (S : Std w D) (C : CodeHd D 751 749) (hDt : D.get? 749 = none) {l l2 : Addr} {vs us : List Value} {ns : List Int} (hl : D.IsList l vs.toArray) (V : NumsAt D vs ns) (hl2 : D.IsList l2 us.toArray) (hI : IntsAre us ns) (Bd : Sm ns) : CallsT w 350 (.ref 752) [.ref l, .ref l2] D 749 (fun v _ => v = .bool true) := by
  by_cases hne : ns = []
  · subst hne
    exact folded_nil S C hDt hl V hl2 hI
  · exact folded_cons S C hDt hl V hl2 hI Bd hne
theorem Gr.self {g : Heap} : Gr g g g [] := ⟨fun _ _ e => e, fun _ o e _ => ⟨o.slots, e⟩, trivial⟩
end Mine.Internal
end
set_option hygiene false
theorem PySem.Challenge.cw_np0089_01_holds : PySem.Challenge.rw_np0089_01.Holds := by
  exact Mine.hd (by
    k_go0
    all_goals (try k_fold)
    rename_i zh1 ztk1 cB cA zdB zdA zX0 zX zT zK zF zc1 zc2 zc3 zN zl0
    rename IntsAre _ _ => zI
    dsimp only
    replace zdA : cA.data = .cell none := by with_unfolding_all exact zdA
    replace zdB : cB.data = .cell none := by with_unfolding_all exact zdB
    have zlv := Mine.Internal.ints_len zI
    have S : Mine.Internal.Std _ _ := ⟨zX, _, _, _, _, _, zT⟩
    have X : Mine.Internal.LawC _ _ _ := ⟨S, codeHd, zc1, zc2, zc3, zF.above, zl0.2.2.2⟩
    refine wpAny_mono (Mine.Internal.segA (Mine.Internal.LawIs.mk' (by k_is)) X Mine.Internal.Gr.self zK (PyProof.Rows.Fr.mk zF.ns zF.keep zF.above) (Mine.Internal.News.part zN (by lcg_sub)) zdA zdB lifted zI (by omega) Mine.Internal.folded_all) (fun fl s' r => ?_) (fun _ _ x => x.elim)
    obtain ⟨rv, h', tk', m', p1, p2, p3, p4, rfl, rF, rN⟩ := r
    cases fl with
    | ret v =>
      have rv' : v = Value.bool true := rv
      subst rv'
      refine ⟨?_, ⟨⟨_, (rN (761, tabObj p1) (by simp)).1⟩, ⟨_, (rN (754, tabObj p2) (by simp)).1⟩, ⟨_, (rN (749, tabObj p3) (by simp)).1⟩, ⟨_, (rN (766, tabObj p4) (by simp)).1⟩, trivial⟩⟩
      k_steps
    | _ => cases rv)
