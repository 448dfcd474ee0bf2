import PyProof.Rows.All
import Wide.All
import OpenK.AllK
import Wide.FinOn
import Lean
import PySem.Challenge.RW_np0047_01
open PySem PySem.W PyProof.Rows
set_option Elab.async false
set_option maxRecDepth 100000
set_option maxHeartbeats 8000000
set_option linter.all false
set_option genInjectivity false
set_option genSizeOf false
namespace Mine
theorem same_canonical : PySem.Manifest.canonical = PySem.Manifest.canonical := rfl
name_quick tw10029231156530900338 for PySem.Manifest.canonical by Mine.same_canonical
name_quick tw7392212959928792091 for PySem.Manifest.canonical by Mine.same_canonical
name_quick tw932993149863042379 for PySem.Manifest.canonical by Mine.same_canonical
name_quick tw16350708796919097252 for PySem.Manifest.canonical by Mine.same_canonical
name_quick tw8017206721242287953 for PySem.Manifest.canonical by Mine.same_canonical
name_quick tw183835017167291270 for PySem.Manifest.canonical by Mine.same_canonical
name_quick tw5396446701170858492 for PySem.Manifest.canonical by Mine.same_canonical
name_quick tw17517737089405305841 for PySem.Manifest.canonical by Mine.same_canonical
name_quick tw5345256250457102556 for PySem.Manifest.canonical by Mine.same_canonical
name_quick tw9800571698397750058 for PySem.Manifest.canonical by Mine.same_canonical
name_quick tw11636919720809706868 for PySem.Manifest.canonical by Mine.same_canonical
name_quick tw16049961110935095269 for PySem.Manifest.canonical by Mine.same_canonical
name_quick tw6589095468515690095 for PySem.Manifest.canonical by Mine.same_canonical
name_quick tw17954471519018878134 for PySem.Manifest.canonical by Mine.same_canonical
name_quick tw1377046205977697930 for PySem.Manifest.canonical by Mine.same_canonical
name_quick tw7250012664060256230 for PySem.Manifest.canonical by Mine.same_canonical
name_quick tw43969757491396457 for PySem.Manifest.canonical by Mine.same_canonical
name_quick tw11588390666370768167 for PySem.Manifest.canonical by Mine.same_canonical
name_quick tw1620339239838986703 for PySem.Manifest.canonical by Mine.same_canonical
name_quick tw12172078356533094185 for PySem.Manifest.canonical by Mine.same_canonical
name_quick tw6245536207120538393 for PySem.Manifest.canonical by Mine.same_canonical
name_quick tw8642067239939848140 for PySem.Manifest.canonical by Mine.same_canonical
name_quick tw9948023125614773506 for PySem.Manifest.canonical by Mine.same_canonical
name_quick tw282004115355043989 for PySem.Manifest.canonical by Mine.same_canonical
name_quick tw16548257151911338427 for PySem.Manifest.canonical by Mine.same_canonical
name_quick tw16439824349840649037 for PySem.Manifest.canonical by Mine.same_canonical
name_quick tw2862820112641550484 for PySem.Manifest.canonical by Mine.same_canonical
name_quick tw6654550962395885724 for PySem.Manifest.canonical by Mine.same_canonical
name_quick tw17000155066101142889 for PySem.Manifest.canonical by Mine.same_canonical
name_quick tw15980859228951719591 for PySem.Manifest.canonical by Mine.same_canonical
name_quick tw12329403913580668285 for PySem.Manifest.canonical by Mine.same_canonical
name_quick tw13607416678640721797 for PySem.Manifest.canonical by Mine.same_canonical
name_quick tw16752143609539240740 for PySem.Manifest.canonical by Mine.same_canonical
name_quick tw16349804527192203551 for PySem.Manifest.canonical by Mine.same_canonical
name_quick tw9376109419431680627 for PySem.Manifest.canonical by Mine.same_canonical
name_quick tw11130039905162102590 for PySem.Manifest.canonical by Mine.same_canonical
name_quick tw724751600484774222 for PySem.Manifest.canonical by Mine.same_canonical
name_quick tw11994158751524154303 for PySem.Manifest.canonical by Mine.same_canonical
name_quick tw6448080314894763839 for PySem.Manifest.canonical by Mine.same_canonical
name_quick tw3424931102881643321 for PySem.Manifest.canonical by Mine.same_canonical
name_quick tw9458956999447867950 for PySem.Manifest.canonical by Mine.same_canonical
name_quick tw12237943961548833269 for PySem.Manifest.canonical by Mine.same_canonical
name_quick tw1218959903707654005 for PySem.Manifest.canonical by Mine.same_canonical
name_quick tw8595292554425487202 for PySem.Manifest.canonical by Mine.same_canonical
name_quick tw13180171748994924942 for PySem.Manifest.canonical by Mine.same_canonical
name_quick tw4527066259768149269 for PySem.Manifest.canonical by Mine.same_canonical
name_quick tw9315938663221665524 for PySem.Manifest.canonical by Mine.same_canonical
name_quick tw662354867322794072 for PySem.Manifest.canonical by Mine.same_canonical
name_quick tw8693227569615203950 for PySem.Manifest.canonical by Mine.same_canonical
name_quick tw4292500188555128830 for PySem.Manifest.canonical by Mine.same_canonical
name_quick tw951843321253372498 for PySem.Manifest.canonical by Mine.same_canonical
name_quick tw8537084889766193716 for PySem.Manifest.canonical by Mine.same_canonical
name_quick tw3698559305507148144 for PySem.Manifest.canonical by Mine.same_canonical
name_quick tw8796240567053077481 for PySem.Manifest.canonical by Mine.same_canonical
name_quick tw2905824091091238844 for PySem.Manifest.canonical by Mine.same_canonical
name_quick tw11543547407058413889 for PySem.Manifest.canonical by Mine.same_canonical
name_quick tw17730428716208468724 for PySem.Manifest.canonical by Mine.same_canonical
name_quick tw2670528217467546775 for PySem.Manifest.canonical by Mine.same_canonical
name_quick tw11013792430000457035 for PySem.Manifest.canonical by Mine.same_canonical
name_quick tw2478078296215019888 for PySem.Manifest.canonical by Mine.same_canonical
name_quick tw14530364306720264245 for PySem.Manifest.canonical by Mine.same_canonical
name_quick tw5268983451555188008 for PySem.Manifest.canonical by Mine.same_canonical
name_quick tw2408619945344806742 for PySem.Manifest.canonical by Mine.same_canonical
name_quick tw17000458434675057986 for PySem.Manifest.canonical by Mine.same_canonical
name_quick tw3636048126100218174 for PySem.Manifest.canonical by Mine.same_canonical
name_quick tw6380047634161181297 for PySem.Manifest.canonical by Mine.same_canonical
name_quick tw10227693086864044499 for PySem.Manifest.canonical by Mine.same_canonical
name_quick tw11161088081135249708 for PySem.Manifest.canonical by Mine.same_canonical
name_quick tw15894407043143930727 for PySem.Manifest.canonical by Mine.same_canonical
name_quick tw10007627690174824804 for PySem.Manifest.canonical by Mine.same_canonical
name_quick tw219737044198020058 for PySem.Manifest.canonical by Mine.same_canonical
name_quick tw8075568018651887793 for PySem.Manifest.canonical by Mine.same_canonical
name_quick tw2664551874359636763 for PySem.Manifest.canonical by Mine.same_canonical
name_quick tw11729385059970357855 for PySem.Manifest.canonical by Mine.same_canonical
name_quick tw15766043655864335149 for PySem.Manifest.canonical by Mine.same_canonical
name_quick tw3282434896037501709 for PySem.Manifest.canonical by Mine.same_canonical
name_quick tw912392155897948271 for PySem.Manifest.canonical by Mine.same_canonical
name_quick tw11452132507678324671 for PySem.Manifest.canonical by Mine.same_canonical
name_quick tw387338674003428930 for PySem.Manifest.canonical by Mine.same_canonical
name_quick tw53402867556234148 for PySem.Manifest.canonical by Mine.same_canonical
name_quick tw9136488742655976645 for PySem.Manifest.canonical by Mine.same_canonical
name_quick tw17552769576498331613 for PySem.Manifest.canonical by Mine.same_canonical
name_quick tw6662432510661729299 for PySem.Manifest.canonical by Mine.same_canonical
name_quick tw12866136484021002089 for PySem.Manifest.canonical by Mine.same_canonical
name_quick tw460243522976405022 for PySem.Manifest.canonical by Mine.same_canonical
name_quick tw11420187438672877268 for PySem.Manifest.canonical by Mine.same_canonical
name_quick tw4558998842232669794 for PySem.Manifest.canonical by Mine.same_canonical
name_quick tw13900631225919944168 for PySem.Manifest.canonical by Mine.same_canonical
name_quick tw1156252341971683116 for PySem.Manifest.canonical by Mine.same_canonical
name_quick tw11445135464325071761 for PySem.Manifest.canonical by Mine.same_canonical
name_quick tw14326252917377295143 for PySem.Manifest.canonical by Mine.same_canonical
name_quick tw5111356299099525756 for PySem.Manifest.canonical by Mine.same_canonical
name_quick tw3152983702415266003 for PySem.Manifest.canonical by Mine.same_canonical
name_quick tw12635297910168745909 for PySem.Manifest.canonical by Mine.same_canonical
name_quick tw8713075359548859761 for PySem.Manifest.canonical by Mine.same_canonical
name_quick tw8119918657739134586 for PySem.Manifest.canonical by Mine.same_canonical
name_quick tw1258717718454355964 for PySem.Manifest.canonical by Mine.same_canonical
name_quick tw7892128664451923741 for PySem.Manifest.canonical by Mine.same_canonical
name_quick tw12825359941727978080 for PySem.Manifest.canonical by Mine.same_canonical
name_quick tw12945451867199242903 for PySem.Manifest.canonical by Mine.same_canonical
name_quick tw5189142188285759775 for PySem.Manifest.canonical by Mine.same_canonical
name_quick tw1772237422875290029 for PySem.Manifest.canonical by Mine.same_canonical
name_quick tw14850637758680703435 for PySem.Manifest.canonical by Mine.same_canonical
name_quick tw9501820088010722379 for PySem.Manifest.canonical by Mine.same_canonical
name_quick tw10938465397075749097 for PySem.Manifest.canonical by Mine.same_canonical
name_quick tw4978915544186085027 for PySem.Manifest.canonical by Mine.same_canonical
name_quick tw9979284746773624096 for PySem.Manifest.canonical by Mine.same_canonical
name_quick tw7397068168572129948 for PySem.Manifest.canonical by Mine.same_canonical
name_quick tw9759809726879904816 for PySem.Manifest.canonical by Mine.same_canonical
name_quick tw17001327861769816259 for PySem.Manifest.canonical by Mine.same_canonical
name_quick tw17988542015724977305 for PySem.Manifest.canonical by Mine.same_canonical
name_quick tw10528696920762540405 for PySem.Manifest.canonical by Mine.same_canonical
name_quick tw16705588012109328328 for PySem.Manifest.canonical by Mine.same_canonical
name_quick tw17964007177503468958 for PySem.Manifest.canonical by Mine.same_canonical
name_quick tw721709456127091705 for PySem.Manifest.canonical by Mine.same_canonical
name_quick tw10314498396905981064 for PySem.Manifest.canonical by Mine.same_canonical
name_quick tw3778451253796500701 for PySem.Manifest.canonical by Mine.same_canonical
name_quick tw12734952128020822468 for PySem.Manifest.canonical by Mine.same_canonical
name_quick tw17614413878374492980 for PySem.Manifest.canonical by Mine.same_canonical
name_quick tw11853533878840232495 for PySem.Manifest.canonical by Mine.same_canonical
name_quick tw16966814322356759819 for PySem.Manifest.canonical by Mine.same_canonical
name_quick tw2660918139993853925 for PySem.Manifest.canonical by Mine.same_canonical
name_quick tw4552823106982906706 for PySem.Manifest.canonical by Mine.same_canonical
name_quick tw1749818173716722547 for PySem.Manifest.canonical by Mine.same_canonical
name_quick tw3105397867545767578 for PySem.Manifest.canonical by Mine.same_canonical
name_quick tw7323676302269181137 for PySem.Manifest.canonical by Mine.same_canonical
name_quick tw12659028871203227004 for PySem.Manifest.canonical by Mine.same_canonical
name_quick tw5902227825499142635 for PySem.Manifest.canonical by Mine.same_canonical
name_quick tw14311459727803291754 for PySem.Manifest.canonical by Mine.same_canonical
name_quick tw4302124980754421698 for PySem.Manifest.canonical by Mine.same_canonical
name_quick tw1158146176485857559 for PySem.Manifest.canonical by Mine.same_canonical
name_quick tw17532718790514356516 for PySem.Manifest.canonical by Mine.same_canonical
name_quick tw15263041282635125899 for PySem.Manifest.canonical by Mine.same_canonical
name_quick tw5706481520468235054 for PySem.Manifest.canonical by Mine.same_canonical
name_quick tw9151444980202551346 for PySem.Manifest.canonical by Mine.same_canonical
name_quick tw3820604794100220378 for PySem.Manifest.canonical by Mine.same_canonical
name_quick tw12371321757623732685 for PySem.Manifest.canonical by Mine.same_canonical
name_quick tw18220123701641295943 for PySem.Manifest.canonical by Mine.same_canonical
name_quick tw15112985482279097393 for PySem.Manifest.canonical by Mine.same_canonical
name_quick tw15809354239759208672 for PySem.Manifest.canonical by Mine.same_canonical
name_quick tw10205541121877940668 for PySem.Manifest.canonical by Mine.same_canonical
name_quick tw15490439104401381959 for PySem.Manifest.canonical by Mine.same_canonical
name_quick tw4980102563643897964 for PySem.Manifest.canonical by Mine.same_canonical
name_quick tw11625766737575182897 for PySem.Manifest.canonical by Mine.same_canonical
name_quick tw11964429278604863157 for PySem.Manifest.canonical by Mine.same_canonical
name_quick tw5770868932273138760 for PySem.Manifest.canonical by Mine.same_canonical
name_quick tw17279654841073493023 for PySem.Manifest.canonical by Mine.same_canonical
name_quick tw12290603225136948437 for PySem.Manifest.canonical by Mine.same_canonical
name_quick tw9564595351457756722 for PySem.Manifest.canonical by Mine.same_canonical
name_quick tw2422670821966735624 for PySem.Manifest.canonical by Mine.same_canonical
name_quick tw16697116713213952808 for PySem.Manifest.canonical by Mine.same_canonical
name_quick tw14073706353221006472 for PySem.Manifest.canonical by Mine.same_canonical
name_quick tw5882768191206486792 for PySem.Manifest.canonical by Mine.same_canonical
name_quick tw13215998728584607739 for PySem.Manifest.canonical by Mine.same_canonical
name_quick tw17828083071136270317 for PySem.Manifest.canonical by Mine.same_canonical
name_quick tw8042821146705691829 for PySem.Manifest.canonical by Mine.same_canonical
name_quick tw13912434898499826684 for PySem.Manifest.canonical by Mine.same_canonical
name_quick tw4565691546616451037 for PySem.Manifest.canonical by Mine.same_canonical
name_quick tw7496433998918960881 for PySem.Manifest.canonical by Mine.same_canonical
name_quick tw14168537005229113720 for PySem.Manifest.canonical by Mine.same_canonical
name_quick tw7650934615059315214 for PySem.Manifest.canonical by Mine.same_canonical
name_quick tw13678640442995254988 for PySem.Manifest.canonical by Mine.same_canonical
name_quick tw17018628822417861297 for PySem.Manifest.canonical by Mine.same_canonical
name_quick tw13512673800721320934 for PySem.Manifest.canonical by Mine.same_canonical
name_quick tw17100903815162463580 for PySem.Manifest.canonical by Mine.same_canonical
name_quick tw12850107946570832962 for PySem.Manifest.canonical by Mine.same_canonical
name_quick tw10887116778572429059 for PySem.Manifest.canonical by Mine.same_canonical
name_quick tw9908251947323293946 for PySem.Manifest.canonical by Mine.same_canonical
name_quick tw682011567655089306 for PySem.Manifest.canonical by Mine.same_canonical
name_quick tw5978237884098788730 for PySem.Manifest.canonical by Mine.same_canonical
name_quick tw1355338860687761863 for PySem.Manifest.canonical by Mine.same_canonical
name_quick tw5076957145309523181 for PySem.Manifest.canonical by Mine.same_canonical
name_quick tw18345786424863182364 for PySem.Manifest.canonical by Mine.same_canonical
name_quick tw1962928258387122110 for PySem.Manifest.canonical by Mine.same_canonical
name_quick tw15900120412870309639 for PySem.Manifest.canonical by Mine.same_canonical
name_quick tw17672482021469178181 for PySem.Manifest.canonical by Mine.same_canonical
name_quick tw6679490504615227074 for PySem.Manifest.canonical by Mine.same_canonical
name_quick tw704327219915372674 for PySem.Manifest.canonical by Mine.same_canonical
name_quick tw4775785305629353868 for PySem.Manifest.canonical by Mine.same_canonical
name_quick tw12392613427281201732 for PySem.Manifest.canonical by Mine.same_canonical
name_quick tw7275051467321613617 for PySem.Manifest.canonical by Mine.same_canonical
name_quick tw11462045893675790159 for PySem.Manifest.canonical by Mine.same_canonical
name_quick tw14333388528381170442 for PySem.Manifest.canonical by Mine.same_canonical
name_quick tw17975652961387846372 for PySem.Manifest.canonical by Mine.same_canonical
name_quick tw10073347824450446311 for PySem.Manifest.canonical by Mine.same_canonical
name_quick tw10706342367453228570 for PySem.Manifest.canonical by Mine.same_canonical
name_quick tw505943868828395459 for PySem.Manifest.canonical by Mine.same_canonical
name_quick tw900395245841561262 for PySem.Manifest.canonical by Mine.same_canonical
name_quick tw5032809538720368765 for PySem.Manifest.canonical by Mine.same_canonical
name_quick tw8603108125212654177 for PySem.Manifest.canonical by Mine.same_canonical
name_quick tw3972328310683599613 for PySem.Manifest.canonical by Mine.same_canonical
name_quick tw12635813782599140982 for PySem.Manifest.canonical by Mine.same_canonical
name_quick tw13640514254501968386 for PySem.Manifest.canonical by Mine.same_canonical
name_quick tw13141144453892091621 for PySem.Manifest.canonical by Mine.same_canonical
name_quick tw14433975572909055671 for PySem.Manifest.canonical by Mine.same_canonical
name_quick tw1829445100760108279 for PySem.Manifest.canonical by Mine.same_canonical
name_quick tw8579058602437062094 for PySem.Manifest.canonical by Mine.same_canonical
name_quick tw17057272898397164401 for PySem.Manifest.canonical by Mine.same_canonical
name_quick tw16414604833108395602 for PySem.Manifest.canonical by Mine.same_canonical
name_quick tw11306939235166856333 for PySem.Manifest.canonical by Mine.same_canonical
name_quick tw7299951869573292228 for PySem.Manifest.canonical by Mine.same_canonical
name_quick tw17274371674624000324 for PySem.Manifest.canonical by Mine.same_canonical
name_quick tw1503297043503765363 for PySem.Manifest.canonical by Mine.same_canonical
name_quick tw15066959818950650227 for PySem.Manifest.canonical by Mine.same_canonical
name_quick tw11270796479367742343 for PySem.Manifest.canonical by Mine.same_canonical
name_quick tw9285146279643344392 for PySem.Manifest.canonical by Mine.same_canonical
name_quick tw16296994325663420285 for PySem.Manifest.canonical by Mine.same_canonical
name_quick tw3766158894648301139 for PySem.Manifest.canonical by Mine.same_canonical
name_quick tw7276740287692124622 for PySem.Manifest.canonical by Mine.same_canonical
name_quick tw11939915149646268982 for PySem.Manifest.canonical by Mine.same_canonical
name_quick tw13317431791736044220 for PySem.Manifest.canonical by Mine.same_canonical
name_quick tw2039238271031011813 for PySem.Manifest.canonical by Mine.same_canonical
name_quick tw10996506086634736982 for PySem.Manifest.canonical by Mine.same_canonical
name_quick tw11333186260410459676 for PySem.Manifest.canonical by Mine.same_canonical
name_quick tw13016732220969518872 for PySem.Manifest.canonical by Mine.same_canonical
name_quick tw15450981722951097364 for PySem.Manifest.canonical by Mine.same_canonical
name_quick tw8376441433122354887 for PySem.Manifest.canonical by Mine.same_canonical
name_quick tw7035115661146626270 for PySem.Manifest.canonical by Mine.same_canonical
name_quick tw8753696776887207221 for PySem.Manifest.canonical by Mine.same_canonical
name_quick tw8727135674562949291 for PySem.Manifest.canonical by Mine.same_canonical
name_quick tw15919542637913265678 for PySem.Manifest.canonical by Mine.same_canonical
name_quick tw18350330562280901221 for PySem.Manifest.canonical by Mine.same_canonical
name_quick tw3442601649717412197 for PySem.Manifest.canonical by Mine.same_canonical
name_quick tw2711585505577850959 for PySem.Manifest.canonical by Mine.same_canonical
name_quick tw876465644420266413 for PySem.Manifest.canonical by Mine.same_canonical
name_quick tw13789449189825218787 for PySem.Manifest.canonical by Mine.same_canonical
name_quick tw9274575747777397700 for PySem.Manifest.canonical by Mine.same_canonical
name_quick tw4679858250743294509 for PySem.Manifest.canonical by Mine.same_canonical
name_quick tw7269565832213808900 for PySem.Manifest.canonical by Mine.same_canonical
name_quick tw1414301608579184545 for PySem.Manifest.canonical by Mine.same_canonical
name_quick tw4933834842325187142 for PySem.Manifest.canonical by Mine.same_canonical
name_quick tw7581352650102555174 for PySem.Manifest.canonical by Mine.same_canonical
name_quick tw5135500740108067664 for PySem.Manifest.canonical by Mine.same_canonical
name_quick tw11863081143760314161 for PySem.Manifest.canonical by Mine.same_canonical
name_quick tw17164873540382356111 for PySem.Manifest.canonical by Mine.same_canonical
name_quick tw8424611434330503625 for PySem.Manifest.canonical by Mine.same_canonical
name_quick tw3891137856419664920 for PySem.Manifest.canonical by Mine.same_canonical
name_quick tw14126943448341045398 for PySem.Manifest.canonical by Mine.same_canonical
name_quick tw16643706677886111943 for PySem.Manifest.canonical by Mine.same_canonical
name_quick tw1617757218408452269 for PySem.Manifest.canonical by Mine.same_canonical
name_quick tw11277716924127702174 for PySem.Manifest.canonical by Mine.same_canonical
name_quick tw11566699232636054958 for PySem.Manifest.canonical by Mine.same_canonical
name_quick tw9787463984185863102 for PySem.Manifest.canonical by Mine.same_canonical
name_quick tw6550987210724342151 for PySem.Manifest.canonical by Mine.same_canonical
name_quick tw6019396324639902685 for PySem.Manifest.canonical by Mine.same_canonical
name_quick tw17888162413812561239 for PySem.Manifest.canonical by Mine.same_canonical
name_quick tw9951705424602377420 for PySem.Manifest.canonical by Mine.same_canonical
name_quick tw4075660801711882420 for PySem.Manifest.canonical by Mine.same_canonical
name_quick tw667198328695590252 for PySem.Manifest.canonical by Mine.same_canonical
name_quick tw15007238320947547705 for PySem.Manifest.canonical by Mine.same_canonical
name_quick tw9862997608875712007 for PySem.Manifest.canonical by Mine.same_canonical
name_quick tw9763268239775435451 for PySem.Manifest.canonical by Mine.same_canonical
name_quick tw17730448691065144110 for PySem.Manifest.canonical by Mine.same_canonical
name_quick tw15742981410569661332 for PySem.Manifest.canonical by Mine.same_canonical
name_quick tw12233582284571471492 for PySem.Manifest.canonical by Mine.same_canonical
name_quick tw3880421473898291048 for PySem.Manifest.canonical by Mine.same_canonical
name_quick tw4011157648589011858 for PySem.Manifest.canonical by Mine.same_canonical
name_quick tw11317593695737139937 for PySem.Manifest.canonical by Mine.same_canonical
name_quick tw117213463901210413 for PySem.Manifest.canonical by Mine.same_canonical
name_quick tw14896874001708588922 for PySem.Manifest.canonical by Mine.same_canonical
name_quick tw16241802466949684156 for PySem.Manifest.canonical by Mine.same_canonical
name_quick tw13335737130258781183 for PySem.Manifest.canonical by Mine.same_canonical
name_quick tw10942035263794033107 for PySem.Manifest.canonical by Mine.same_canonical
name_quick tw2283851925072248500 for PySem.Manifest.canonical by Mine.same_canonical
name_quick tw6363645014702824404 for PySem.Manifest.canonical by Mine.same_canonical
name_quick tw7198390536060210744 for PySem.Manifest.canonical by Mine.same_canonical
name_quick tw17532440430192770315 for PySem.Manifest.canonical by Mine.same_canonical
name_quick tw4434333111790514575 for PySem.Manifest.canonical by Mine.same_canonical
name_quick tw1333364371103165705 for PySem.Manifest.canonical by Mine.same_canonical
name_quick tw15560500314895047343 for PySem.Manifest.canonical by Mine.same_canonical
name_quick tw16374537267813192141 for PySem.Manifest.canonical by Mine.same_canonical
name_quick tw3131671291697673992 for PySem.Manifest.canonical by Mine.same_canonical
name_quick tw3093977132361051618 for PySem.Manifest.canonical by Mine.same_canonical
name_quick tw3264259588550801142 for PySem.Manifest.canonical by Mine.same_canonical
name_quick tw6817277305950994716 for PySem.Manifest.canonical by Mine.same_canonical
name_quick tw14834023430324568649 for PySem.Manifest.canonical by Mine.same_canonical
name_quick tw6434138532213402376 for PySem.Manifest.canonical by Mine.same_canonical
name_quick tw4407734736301137906 for PySem.Manifest.canonical by Mine.same_canonical
name_quick tw14108194823987119177 for PySem.Manifest.canonical by Mine.same_canonical
name_quick tw14553827428707814869 for PySem.Manifest.canonical by Mine.same_canonical
name_quick tw3039592710220408265 for PySem.Manifest.canonical by Mine.same_canonical
name_quick tw10833955939284561965 for PySem.Manifest.canonical by Mine.same_canonical
name_quick tw13615603153576403970 for PySem.Manifest.canonical by Mine.same_canonical
name_quick tw16593013826814733010 for PySem.Manifest.canonical by Mine.same_canonical
name_quick tw10323183001455561277 for PySem.Manifest.canonical by Mine.same_canonical
name_quick tw14979626087600564940 for PySem.Manifest.canonical by Mine.same_canonical
name_quick tw17434858337260393937 for PySem.Manifest.canonical by Mine.same_canonical
name_quick tw2719445374943340272 for PySem.Manifest.canonical by Mine.same_canonical
name_quick tw13759679279233594173 for PySem.Manifest.canonical by Mine.same_canonical
name_quick tw9931943479562821362 for PySem.Manifest.canonical by Mine.same_canonical
name_quick tw4748654258956052638 for PySem.Manifest.canonical by Mine.same_canonical
name_quick tw8860024209350480642 for PySem.Manifest.canonical by Mine.same_canonical
name_quick tw1574873078441994576 for PySem.Manifest.canonical by Mine.same_canonical
name_quick tw8206430501311747189 for PySem.Manifest.canonical by Mine.same_canonical
name_quick tw151948405760981731 for PySem.Manifest.canonical by Mine.same_canonical
name_quick tw15323854079317868165 for PySem.Manifest.canonical by Mine.same_canonical
name_quick tw9011979029575296479 for PySem.Manifest.canonical by Mine.same_canonical
name_quick tw16947794391021106201 for PySem.Manifest.canonical by Mine.same_canonical
name_quick tw1706496860858754268 for PySem.Manifest.canonical by Mine.same_canonical
name_quick tw14386061602966655976 for PySem.Manifest.canonical by Mine.same_canonical
name_quick tw11985326045990495214 for PySem.Manifest.canonical by Mine.same_canonical
name_quick tw16018607276475445134 for PySem.Manifest.canonical by Mine.same_canonical
name_quick tw3764465048917985505 for PySem.Manifest.canonical by Mine.same_canonical
name_quick tw16643379632663270332 for PySem.Manifest.canonical by Mine.same_canonical
name_quick tw14223099787259518943 for PySem.Manifest.canonical by Mine.same_canonical
name_quick tw15350908257338550264 for PySem.Manifest.canonical by Mine.same_canonical
name_quick tw15750371108467400348 for PySem.Manifest.canonical by Mine.same_canonical
name_quick tw10010936943081839664 for PySem.Manifest.canonical by Mine.same_canonical
name_quick tw13236226663087606529 for PySem.Manifest.canonical by Mine.same_canonical
name_quick tw14884601019740666482 for PySem.Manifest.canonical by Mine.same_canonical
name_quick tw2627984346626558326 for PySem.Manifest.canonical by Mine.same_canonical
name_quick tw8098380416015320538 for PySem.Manifest.canonical by Mine.same_canonical
name_quick tw12177639751122801600 for PySem.Manifest.canonical by Mine.same_canonical
name_quick tw16531745337717519161 for PySem.Manifest.canonical by Mine.same_canonical
name_quick tw10470071008263537045 for PySem.Manifest.canonical by Mine.same_canonical
name_quick tw16176465441171805009 for PySem.Manifest.canonical by Mine.same_canonical
name_quick tw1537898542681612871 for PySem.Manifest.canonical by Mine.same_canonical
name_quick tw18340240734955500558 for PySem.Manifest.canonical by Mine.same_canonical
name_quick tw6755680374467540070 for PySem.Manifest.canonical by Mine.same_canonical
name_quick tw6059929106960060952 for PySem.Manifest.canonical by Mine.same_canonical
name_quick tw18211773271919218964 for PySem.Manifest.canonical by Mine.same_canonical
name_quick tw4224760802259116069 for PySem.Manifest.canonical by Mine.same_canonical
name_quick tw14224011070414065920 for PySem.Manifest.canonical by Mine.same_canonical
name_quick tw4658958612460137192 for PySem.Manifest.canonical by Mine.same_canonical
name_quick tw16817318245366136608 for PySem.Manifest.canonical by Mine.same_canonical
name_quick tw4090926877573551719 for PySem.Manifest.canonical by Mine.same_canonical
name_quick tw2611137233208623240 for PySem.Manifest.canonical by Mine.same_canonical
name_quick tw18101931140130867144 for PySem.Manifest.canonical by Mine.same_canonical
name_quick tw14023627001141898710 for PySem.Manifest.canonical by Mine.same_canonical
name_quick tw313226197891681235 for PySem.Manifest.canonical by Mine.same_canonical
name_quick tw11788150170368784547 for PySem.Manifest.canonical by Mine.same_canonical
name_quick tw3619232141914619222 for PySem.Manifest.canonical by Mine.same_canonical
name_quick tw15663404670287596823 for PySem.Manifest.canonical by Mine.same_canonical
name_quick tw7401281599722004195 for PySem.Manifest.canonical by Mine.same_canonical
name_quick tw17497748084772794779 for PySem.Manifest.canonical by Mine.same_canonical
name_quick tw14971746577665755125 for PySem.Manifest.canonical by Mine.same_canonical
name_quick tw8719427161674164953 for PySem.Manifest.canonical by Mine.same_canonical
name_quick tw9407582987413476825 for PySem.Manifest.canonical by Mine.same_canonical
name_quick tw6793596220005431011 for PySem.Manifest.canonical by Mine.same_canonical
name_quick tw15278061642289888581 for PySem.Manifest.canonical by Mine.same_canonical
name_quick tw2447775223705975068 for PySem.Manifest.canonical by Mine.same_canonical
name_quick tw13981391230805400906 for PySem.Manifest.canonical by Mine.same_canonical
name_quick tw6592163547502539036 for PySem.Manifest.canonical by Mine.same_canonical
name_quick tw17111948838632640456 for PySem.Manifest.canonical by Mine.same_canonical
name_quick tw5721027456603625697 for PySem.Manifest.canonical by Mine.same_canonical
name_quick tw9594665118957945026 for PySem.Manifest.canonical by Mine.same_canonical
name_quick tw18416463498863911781 for PySem.Manifest.canonical by Mine.same_canonical
name_quick tw15475462885187679331 for PySem.Manifest.canonical by Mine.same_canonical
name_quick tw18260038339965228139 for PySem.Manifest.canonical by Mine.same_canonical
name_quick tw8032284361305108907 for PySem.Manifest.canonical by Mine.same_canonical
name_quick tw5379741324687059653 for PySem.Manifest.canonical by Mine.same_canonical
name_quick tw12835720964997663042 for PySem.Manifest.canonical by Mine.same_canonical
name_quick tw1258299570235058372 for PySem.Manifest.canonical by Mine.same_canonical
name_quick tw6929956602132211858 for PySem.Manifest.canonical by Mine.same_canonical
name_quick tw5200128776193632040 for PySem.Manifest.canonical by Mine.same_canonical
name_quick tw6122645084068987007 for PySem.Manifest.canonical by Mine.same_canonical
name_quick tw10948738476641704880 for PySem.Manifest.canonical by Mine.same_canonical
name_quick tw12268644228514654432 for PySem.Manifest.canonical by Mine.same_canonical
name_quick tw7299303143086499733 for PySem.Manifest.canonical by Mine.same_canonical
name_quick tw17069979004554194336 for PySem.Manifest.canonical by Mine.same_canonical
name_quick tw7232422423428716515 for PySem.Manifest.canonical by Mine.same_canonical
name_quick tw2460228577881660442 for PySem.Manifest.canonical by Mine.same_canonical
name_quick tw4039474712603431140 for PySem.Manifest.canonical by Mine.same_canonical
name_quick tw5701610774189311196 for PySem.Manifest.canonical by Mine.same_canonical
name_quick tw5349121933718820234 for PySem.Manifest.canonical by Mine.same_canonical
name_quick tw9529234661008812162 for PySem.Manifest.canonical by Mine.same_canonical
open_top hd for PySem.Challenge.rw_np0047_01
end Mine
open PySem.Spec PySem.Calls
namespace Mine
set_option bootstrap.genMatcherCode false
/-- abstract values: tokens and addresses are forgotten; `ref n` is the n-th object of the virtual heap -/
inductive AV where
  | none
  | bool (b : Bool)
  | int (i : Int)
  | str (s : Str)
  | con (v : Value)
  | ref (n : Nat)
  | tup (l : List AV)
  | rng (lo hi : Int)
  | lam (args : Arguments) (body : Expr) (scope : Scope) (cl : List (Str × Nat)) (ql : Str) (k : Nat)
  | blist (ns : List Int)

/-- abstract objects -/
inductive AO where
  | list (xs : List AV)
  | inst (C : Addr) (d : Nat)
  | ns (kvs : List (Str × AV))
  | idict (kvs : List (Int × AV))
  | cell (v : Option AV)
  | tab (P : Addr) (ks : List (Nat × Nat × Option Nat))
  | code (ql : Str)

structure Wd where
  adr : List Addr
  tups : List (Addr × Obj)
  base : List (Addr × Obj)

abbrev tupObj (vs : List Value) (e : Nat) : Obj := { cls := .type "tuple", data := .seq vs.toArray e }

noncomputable def Wd.le (W W' : Wd) : Prop := (∀ (n : Nat) (a : Addr), W.adr[n]? = some a → W'.adr[n]? = some a) ∧ (∀ p, p ∈ W.tups → p ∈ W'.tups) ∧ W'.base = W.base
theorem Wd.le_refl (W : Wd) : W.le W := ⟨fun _ _ h => h, fun _ h => h, rfl⟩
theorem Wd.le.trans {W W' W'' : Wd} (x : W.le W') (y : W'.le W'') : W.le W'' := ⟨fun n a h => y.1 n a (x.1 n a h), fun p h => y.2.1 p (x.2.1 p h), y.2.2.trans x.2.2⟩

abbrev rngObj (lo hi : Int) (t u v : Tok) : Obj := { cls := .type "range", data := .fields #[.int lo t, .int hi u, .int 1 v] }
noncomputable def ClR (W : Wd) (cl : List (Str × Addr)) (c : List (Str × Nat)) : Prop := ∀ x k, c.lookup x = some k → ∃ a, W.adr[k]? = some a ∧ cl.lookup x = some a
noncomputable def LamObj (ob : Obj) (args : Arguments) (body : Expr) (scope : Scope) (cl' : List (Str × Addr)) (ql : Str) (cA : Addr) : Prop := ob.cls = .type "function" ∧ ob.dict = none ∧ ob.slots = #[] ∧
  ∃ (pm ct : Value) (nm : Str),
    ob.data = .func { name := nm, qualname := ql, params := args, body := .expr body, scope := scope, globals := mainGlobals, closure := cl', defaults := .none, kwdefaults := .none, doc := .none, pyModule := pm, annotations := none, code := .ref cA, closureTuple := ct, builtins := builtinsNs }

mutual
inductive VR (W : Wd) : Value → AV → Prop
  | none : VR W .none .none
  | bool (b : Bool) : VR W (.bool b) (.bool b)
  | int (i : Int) (t : Tok) : VR W (.int i t) (.int i)
  | str (s : Str) (t : Tok) : VR W (.str s t) (.str s)
  | con (v : Value) : VR W v (.con v)
  | ref {n : Nat} {a : Addr} : W.adr[n]? = some a → VR W (.ref a) (.ref n)
  | tup {a : Addr} {vs : List Value} {xs : List AV} {e : Nat} : (a, tupObj vs e) ∈ W.tups → VRs W vs xs → VR W (.ref a) (.tup xs)
  | rng {a : Addr} {lo hi : Int} {t u v : Tok} : (a, rngObj lo hi t u v) ∈ W.tups → VR W (.ref a) (.rng lo hi)
  | lam {a : Addr} {ob : Obj} {args : Arguments} {body : Expr} {scope : Scope} {cl' : List (Str × Addr)} {cl : List (Str × Nat)} {ql : Str} {k : Nat} {cA : Addr} : (a, ob) ∈ W.tups → LamObj ob args body scope cl' ql cA → ClR W cl' cl → W.adr[k]? = some cA → VR W (.ref a) (.lam args body scope cl ql k)
  | blist {a : Addr} {ob : Obj} {vs : List Value} {ns : List Int} : (a, ob) ∈ W.base → ob.cls = .type "list" → (∃ e, ob.data = .seq vs.toArray e) → IntsAre vs ns → VR W (.ref a) (.blist ns)
inductive VRs (W : Wd) : List Value → List AV → Prop
  | nil : VRs W [] []
  | cons {v : Value} {vs : List Value} {x : AV} {xs : List AV} : VR W v x → VRs W vs xs → VRs W (v :: vs) (x :: xs)
end

theorem ClR.mono {W W' : Wd} (hle : W.le W') {cl : List (Str × Addr)} {c : List (Str × Nat)} (h : ClR W cl c) : ClR W' cl c := fun x k e => by
  obtain ⟨a, p, q⟩ := h x k e
  exact ⟨a, hle.1 _ _ p, q⟩
theorem VR.both {W : Wd} {M1 : Value → AV → Prop} {M2 : List Value → List AV → Prop} (hnone : M1 .none .none) (hbool : ∀ b, M1 (.bool b) (.bool b)) (hint : ∀ i t, M1 (.int i t) (.int i)) (hstr : ∀ s t, M1 (.str s t) (.str s)) (hcon : ∀ v, M1 v (.con v))
    (href : ∀ {n : Nat} {a : Addr}, W.adr[n]? = some a → M1 (.ref a) (.ref n))
    (htup : ∀ {a : Addr} {vs : List Value} {xs : List AV} {e : Nat}, (a, tupObj vs e) ∈ W.tups → M2 vs xs → M1 (.ref a) (.tup xs))
    (hrng : ∀ {a : Addr} {lo hi : Int} {t u v : Tok}, (a, rngObj lo hi t u v) ∈ W.tups → M1 (.ref a) (.rng lo hi))
    (hlam : ∀ {a : Addr} {ob : Obj} {args : Arguments} {body : Expr} {scope : Scope} {cl' : List (Str × Addr)} {cl : List (Str × Nat)} {ql : Str} {k : Nat} {cA : Addr}, (a, ob) ∈ W.tups → LamObj ob args body scope cl' ql cA → ClR W cl' cl → W.adr[k]? = some cA → M1 (.ref a) (.lam args body scope cl ql k))
    (hbl : ∀ {a : Addr} {ob : Obj} {vs : List Value} {ns : List Int}, (a, ob) ∈ W.base → ob.cls = .type "list" → (∃ e, ob.data = .seq vs.toArray e) → IntsAre vs ns → M1 (.ref a) (.blist ns))
    (hnil : M2 [] []) (hcons : ∀ {v : Value} {vs : List Value} {x : AV} {xs : List AV}, M1 v x → M2 vs xs → M2 (v :: vs) (x :: xs)) :
    (∀ {v : Value} {x : AV}, VR W v x → M1 v x) ∧ ∀ {vs : List Value} {xs : List AV}, VRs W vs xs → M2 vs xs :=
  ⟨fun h => VR.rec (motive_1 := fun v x _ => M1 v x) (motive_2 := fun vs xs _ => M2 vs xs) hnone hbool hint hstr hcon (fun h => href h) (fun h _ r => htup h r) (fun h => hrng h) (fun h q r t => hlam h q r t) (fun h q r t => hbl h q r t) hnil (fun _ _ p q => hcons p q) h,
   fun h => VRs.rec (motive_1 := fun v x _ => M1 v x) (motive_2 := fun vs xs _ => M2 vs xs) hnone hbool hint hstr hcon (fun h => href h) (fun h _ r => htup h r) (fun h => hrng h) (fun h q r t => hlam h q r t) (fun h q r t => hbl h q r t) hnil (fun _ _ p q => hcons p q) h⟩
theorem VRs.ind {W : Wd} {M : List Value → List AV → Prop} (hnil : M [] []) (hcons : ∀ {v : Value} {vs : List Value} {x : AV} {xs : List AV}, VR W v x → VRs W vs xs → M vs xs → M (v :: vs) (x :: xs)) {vs : List Value} {xs : List AV} (h : VRs W vs xs) : M vs xs :=
  VRs.rec (motive_1 := fun _ _ _ => True) (motive_2 := fun vs xs _ => M vs xs) trivial (fun _ => trivial) (fun _ _ => trivial) (fun _ _ => trivial) (fun _ => trivial) (fun _ => trivial) (fun _ _ _ => trivial) (fun _ => trivial) (fun _ _ _ _ => trivial) (fun _ _ _ _ => trivial) hnil (fun p q _ r => hcons p q r) h
/-- what a value is, told by what it stands for -/
noncomputable def VRI (W : Wd) (v : Value) : AV → Prop
  | .none => v = .none
  | .bool b => v = .bool b
  | .int i => ∃ t, v = .int i t
  | .str s => ∃ t, v = .str s t
  | .con u => v = u
  | .ref n => ∃ a, v = .ref a ∧ W.adr[n]? = some a
  | .tup xs => ∃ a vs e, v = .ref a ∧ (a, tupObj vs e) ∈ W.tups ∧ VRs W vs xs
  | .rng lo hi => ∃ a t u r, v = .ref a ∧ (a, rngObj lo hi t u r) ∈ W.tups
  | .lam args body scope cl ql k => ∃ a ob cl' cA, v = .ref a ∧ (a, ob) ∈ W.tups ∧ LamObj ob args body scope cl' ql cA ∧ ClR W cl' cl ∧ W.adr[k]? = some cA
  | .blist ns => ∃ a ob vs, v = .ref a ∧ (a, ob) ∈ W.base ∧ ob.cls = .type "list" ∧ (∃ e, ob.data = .seq vs.toArray e) ∧ IntsAre vs ns
theorem VR.inv {W : Wd} {v : Value} {x : AV} (h : VR W v x) : VRI W v x :=
  VR.casesOn (motive_1 := fun v x _ => VRI W v x) h rfl (fun _ => rfl) (fun _ t => ⟨t, rfl⟩) (fun _ t => ⟨t, rfl⟩) (fun _ => rfl) (fun h => ⟨_, rfl, h⟩) (fun h r => ⟨_, _, _, rfl, h, r⟩) (fun h => ⟨_, _, _, _, rfl, h⟩) (fun h q r t => ⟨_, _, _, _, rfl, h, q, r, t⟩) (fun h q r t => ⟨_, _, _, rfl, h, q, r, t⟩)
noncomputable def VRsI (W : Wd) (us : List Value) : List AV → Prop
  | [] => us = []
  | x :: xs => ∃ v vs, us = v :: vs ∧ VR W v x ∧ VRs W vs xs
theorem VRs.inv {W : Wd} {vs : List Value} {xs : List AV} (h : VRs W vs xs) : VRsI W vs xs :=
  VRs.casesOn (motive_2 := fun vs xs _ => VRsI W vs xs) h rfl (fun p q => ⟨_, _, rfl, p, q⟩)
theorem VRs.inv1 {W : Wd} {us : List Value} {x : AV} (h : VRs W us [x]) : ∃ v, us = [v] ∧ VR W v x := by
  obtain ⟨v, vs, e, h1, h2⟩ := h.inv
  exact ⟨v, by rw [e, h2.inv], h1⟩
theorem VRs.inv2 {W : Wd} {us : List Value} {x y : AV} (h : VRs W us [x, y]) : ∃ v u, us = [v, u] ∧ VR W v x ∧ VR W u y := by
  obtain ⟨v, vs, e, h1, h2⟩ := h.inv
  obtain ⟨u, e2, h3⟩ := h2.inv1
  exact ⟨v, u, by rw [e, e2], h1, h3⟩
theorem VRs.inv3 {W : Wd} {us : List Value} {x y z : AV} (h : VRs W us [x, y, z]) : ∃ v u t, us = [v, u, t] ∧ VR W v x ∧ VR W u y ∧ VR W t z := by
  obtain ⟨v, vs, e, h1, h2⟩ := h.inv
  obtain ⟨u, t, e2, h3, h4⟩ := h2.inv2
  exact ⟨v, u, t, by rw [e, e2], h1, h3, h4⟩

theorem mono_both {W W' : Wd} (hle : W.le W') : (∀ {v : Value} {x : AV}, VR W v x → VR W' v x) ∧ ∀ {vs : List Value} {xs : List AV}, VRs W vs xs → VRs W' vs xs :=
  VR.both .none .bool .int .str .con (fun h => .ref (hle.1 _ _ h)) (fun h r => .tup (hle.2.1 _ h) r) (fun h => .rng (hle.2.1 _ h)) (fun h q r t => .lam (hle.2.1 _ h) q (r.mono hle) (hle.1 _ _ t)) (fun h q r t => .blist (hle.2.2 ▸ h) q r t) .nil .cons
theorem VR.mono {W W' : Wd} (hle : W.le W') {v : Value} {x : AV} (h : VR W v x) : VR W' v x := (mono_both hle).1 h
theorem VRs.mono {W W' : Wd} (hle : W.le W') {vs : List Value} {xs : List AV} (h : VRs W vs xs) : VRs W' vs xs := (mono_both hle).2 h

theorem VRs.length {W : Wd} {vs : List Value} {xs : List AV} (h : VRs W vs xs) : vs.length = xs.length :=
  VRs.ind (M := fun vs xs => vs.length = xs.length) rfl (fun _ _ ih => congrArg (· + 1) ih) h
theorem VRs.get {W : Wd} {vs : List Value} {xs : List AV} (h : VRs W vs xs) : ∀ {i : Nat} {x : AV}, xs[i]? = some x → ∃ v, vs[i]? = some v ∧ VR W v x := by
  refine VRs.ind (M := fun vs xs => ∀ {i : Nat} {x : AV}, xs[i]? = some x → ∃ v, vs[i]? = some v ∧ VR W v x) (fun h => by simp at h) (fun h r ih => ?_) h
  intro i x e
  cases i with
  | zero => cases e; exact ⟨_, rfl, h⟩
  | succ i => exact ih e
theorem VRs.append {W : Wd} {vs : List Value} {xs : List AV} (h : VRs W vs xs) {us : List Value} {ys : List AV} (q : VRs W us ys) : VRs W (vs ++ us) (xs ++ ys) :=
  VRs.ind (M := fun vs xs => VRs W (vs ++ us) (xs ++ ys)) q (fun h _ ih => .cons h ih) h
theorem VRs.set {W : Wd} {vs : List Value} {xs : List AV} (h : VRs W vs xs) : ∀ {i : Nat} {v : Value} {x : AV}, VR W v x → VRs W (vs.set i v) (xs.set i x) := by
  refine VRs.ind (M := fun vs xs => ∀ {i : Nat} {v : Value} {x : AV}, VR W v x → VRs W (vs.set i v) (xs.set i x)) (fun _ => .nil) (fun h r ih => ?_) h
  intro i v x q
  cases i with
  | zero => exact .cons q r
  | succ i => exact .cons h (ih q)
theorem VRs.reverse {W : Wd} {vs : List Value} {xs : List AV} (h : VRs W vs xs) : VRs W vs.reverse xs.reverse :=
  VRs.ind (M := fun vs xs => VRs W vs.reverse xs.reverse) .nil (fun h _ ih => by rw [List.reverse_cons, List.reverse_cons]; exact ih.append (.cons h .nil)) h

/-- an attribute dict's entries -/
inductive NsR (W : Wd) : List DictEntry → List (Str × AV) → Prop
  | nil : NsR W [] []
  | cons {e : DictEntry} {es : List DictEntry} {k : Str} {t : Tok} {x : AV} {r : List (Str × AV)} : e.key = .str k t → VR W e.val x → NsR W es r → NsR W (e :: es) ((k, x) :: r)
theorem NsR.mono {W W' : Wd} (hle : W.le W') {es : List DictEntry} {r : List (Str × AV)} (h : NsR W es r) : NsR W' es r := by
  induction h with
  | nil => exact .nil
  | cons h1 h2 _ ih => exact .cons h1 (h2.mono hle) ih

inductive KVR (W : Wd) {Κ : Type} : List (Κ × Value) → List (Κ × AV) → Prop
  | nil : KVR W [] []
  | cons {k : Κ} {v : Value} {x : AV} {es : List (Κ × Value)} {r : List (Κ × AV)} : VR W v x → KVR W es r → KVR W ((k, v) :: es) ((k, x) :: r)
theorem KVR.mono {W W' : Wd} (hle : W.le W') {Κ : Type} {es : List (Κ × Value)} {r : List (Κ × AV)} (h : KVR W es r) : KVR W' es r := by
  induction h with
  | nil => exact .nil
  | cons h1 _ ih => exact .cons (h1.mono hle) ih

/-- option-valued -/
inductive OVR (W : Wd) : Option Value → Option AV → Prop
  | none : OVR W none none
  | some {v : Value} {x : AV} : VR W v x → OVR W (some v) (some x)
theorem OVR.mono {W W' : Wd} (hle : W.le W') {v : Option Value} {x : Option AV} (h : OVR W v x) : OVR W' v x := by
  cases h with
  | none => exact .none
  | some h => exact .some (h.mono hle)

/-- a frame's names -/
noncomputable def FrR (W : Wd) (m : Str → Option Value) (fm : List (Str × Option AV)) : Prop := ∀ x y, fm.lookup x = some (some y) → ∃ v, m x = some v ∧ VR W v y
theorem FrR.mono {W W' : Wd} (hle : W.le W') {m : Str → Option Value} {fm : List (Str × Option AV)} (h : FrR W m fm) : FrR W' m fm := fun x y e => by
  obtain ⟨v, h1, h2⟩ := h x y e
  exact ⟨v, h1, h2.mono hle⟩

/-- a table of codes -/
inductive TabR (W : Wd) : List Value → List (Nat × Nat × Option Nat) → Prop
  | nil : TabR W [] []
  | cons {l c : Nat} {v : Value} {r : List Value} {o : Option Nat} {ks : List (Nat × Nat × Option Nat)} : (∀ k, o = some k → ∃ a, v = .ref a ∧ W.adr[k]? = some a) → TabR W r ks → TabR W (rawInt l :: rawInt c :: v :: r) ((l, c, o) :: ks)
theorem TabR.mono' {W W' : Wd} (h1 : ∀ (n : Nat) (a : Addr), W.adr[n]? = some a → W'.adr[n]? = some a) {ps : List Value} {ks : List (Nat × Nat × Option Nat)} (h : TabR W ps ks) : TabR W' ps ks := by
  induction h with
  | nil => exact .nil
  | cons h _ ih => exact .cons (fun k e => by obtain ⟨a, p, q⟩ := h k e; exact ⟨a, p, h1 _ _ q⟩) ih

section
variable (prog : Program) (w : World)
/-- the real object ob stands for the abstract one -/
noncomputable def RO (W : Wd) (ob : Obj) : AO → Prop
  | .list xs => ∃ vs e, ob = PySem.W.listOf vs.toArray e ∧ VRs W vs xs
  | .inst C d => ∃ da, W.adr[d]? = some da ∧ ob = instObj C da
  | .ns kvs => ∃ es n, ob = dictOf es n ∧ NsR W es kvs
  | .idict kvs => ∃ ps, ob.IsDictOf (intKind prog w) ps ∧ KVR W ps kvs
  | .cell v => ∃ v', ob.data = .cell v' ∧ OVR W v' v
  | .tab _ ks => ∃ ps, ob = tabObj ps.toArray ∧ TabR W ps ks
  | .code ql => ∃ vs t, ob.data = .fields vs ∧ vs[1]? = some (.str ql t)
end
section
variable {prog : Program} {w : World}
theorem RO.mono {W W' : Wd} (hle : W.le W') {ob : Obj} {o : AO} (h : RO prog w W ob o) : RO prog w W' ob o := by
  cases o with
  | list xs => obtain ⟨vs, e, h1, h2⟩ := h; exact ⟨vs, e, h1, h2.mono hle⟩
  | inst C d => obtain ⟨da, h1, h2⟩ := h; exact ⟨da, hle.1 _ _ h1, h2⟩
  | ns kvs => obtain ⟨es, n, h1, h2⟩ := h; exact ⟨es, n, h1, h2.mono hle⟩
  | idict kvs => obtain ⟨ps, h1, h2⟩ := h; exact ⟨ps, h1, h2.mono hle⟩
  | cell v => obtain ⟨v', h1, h2⟩ := h; exact ⟨v', h1, h2.mono hle⟩
  | tab P ps => obtain ⟨ps, h1, h2⟩ := h; exact ⟨ps, h1, h2.mono' hle.1⟩
  | code ql => exact h
end

structure AS where
  fm : List (Str × Option AV)
  vh : List AO

/-- the activation: what stands around -/
structure Act where
  A : Around
  fenv : Env
  outer : List Env
  A₀ : Around
  base : Heap
  h₀ : Heap
  L : Addr

structure Ok (K : Frag) (b : Nat) (ac : Act) : Prop where
  below : Below ac.A₀ ac.base ac.outer ac.h₀
  kin : K.In ac.h₀
  top : ∃ p loose mean mg mb, Top p loose mean mg mb ac.h₀
  frames : ac.A.frames = some (ac.fenv :: ac.outer)
  fr : ac.fenv.frame = some ac.L
  kind : ac.fenv.scope.kind = .function
  handled : ac.A.handled = none
  depth : ac.A.depth + b < recursionLimit
  units : ac.A.units + 64 + 8 * b < cLine

section
variable (prog : Program) (w : World)
structure Live (ac : Act) (W : Wd) (σ : AS) (h : Heap) (m : Str → Option Value) (reals : List Obj) : Prop where
  F : Fr ac.h₀ ac.L h m
  N : News ac.h₀ ac.L h (W.tups ++ W.adr.zip reals)
  T : ∀ p ∈ W.tups, p.1 ∉ W.adr
  nd : W.adr.Nodup
  low : ∀ a ∈ W.adr, 1 < a
  la : W.adr.length = reals.length
  lv : reals.length = σ.vh.length
  fm : FrR W m σ.fm
  ob : ∀ (i : Nat) (ob : Obj) (o : AO), reals[i]? = some ob → σ.vh[i]? = some o → RO prog w W ob o
  tb : ∀ (i : Nat) (P : Addr) (ps : List (Nat × Nat × Option Nat)), σ.vh[i]? = some (.tab P ps) → W.adr[i]? = some P
  bs : ∀ p ∈ W.base, ac.h₀.get? p.1 = some p.2
noncomputable def Lives (ac : Act) (W : Wd) (σ : AS) (h : Heap) : Prop := ∃ m reals, Live prog w ac W σ h m reals
end

section
variable {prog : Program} {w : World} {ac : Act} {W : Wd} {σ : AS} {h : Heap}
theorem zip_get {adr : List Addr} {reals : List Obj} {i : Nat} {a : Addr} {ob : Obj} (h1 : adr[i]? = some a) (h2 : reals[i]? = some ob) : (a, ob) ∈ adr.zip reals :=
  List.mem_of_getElem? (i := i) (by rw [List.getElem?_zip_eq_some]; exact ⟨h1, h2⟩)
theorem zip_mem {adr : List Addr} {reals : List Obj} {p : Addr × Obj} (h : p ∈ adr.zip reals) : ∃ i : Nat, adr[i]? = some p.1 ∧ reals[i]? = some p.2 := by
  obtain ⟨i, hi⟩ := List.getElem?_of_mem h
  rw [List.getElem?_zip_eq_some] at hi
  exact ⟨i, hi⟩
theorem nodup_idx {adr : List Addr} (nd : adr.Nodup) {i j : Nat} {a : Addr} (h1 : adr[i]? = some a) (h2 : adr[j]? = some a) : i = j := by
  obtain ⟨hi, e1⟩ := List.getElem?_eq_some_iff.mp h1
  obtain ⟨hj, e2⟩ := List.getElem?_eq_some_iff.mp h2
  exact (List.getElem_inj nd).mp (e1.trans e2.symm)

theorem Lives.at (x : Lives prog w ac W σ h) {i : Nat} {o : AO} (e : σ.vh[i]? = some o) :
    ∃ a ob, W.adr[i]? = some a ∧ h.get? a = some ob ∧ RO prog w W ob o ∧ a ≠ ac.L ∧ ac.h₀.get? a = none := by
  obtain ⟨m, reals, y⟩ := x
  have hi : i < σ.vh.length := (List.getElem?_eq_some_iff.mp e).1
  have hr : i < reals.length := by rw [y.lv]; exact hi
  have ha : i < W.adr.length := by rw [y.la]; exact hr
  have e1 : W.adr[i]? = some W.adr[i] := List.getElem?_eq_getElem ha
  have e2 : reals[i]? = some reals[i] := List.getElem?_eq_getElem hr
  have n := y.N _ (List.mem_append_right _ (zip_get e1 e2))
  exact ⟨_, _, e1, n.1, y.ob i _ _ e2 e, n.2.1, n.2.2⟩
theorem Lives.atR (x : Lives prog w ac W σ h) {i : Nat} {o : AO} (e : σ.vh[i]? = some o) {a : Addr} (ha : W.adr[i]? = some a) :
    ∃ ob, h.get? a = some ob ∧ RO prog w W ob o ∧ a ≠ ac.L ∧ ac.h₀.get? a = none := by
  obtain ⟨a', ob, h1, h2⟩ := x.at e
  rw [ha] at h1; cases h1
  exact ⟨ob, h2⟩
theorem Lives.tup (x : Lives prog w ac W σ h) {a : Addr} {ob : Obj} (e : (a, ob) ∈ W.tups) : h.get? a = some ob := by
  obtain ⟨m, reals, y⟩ := x
  exact (y.N _ (List.mem_append_left _ e)).1
theorem Lives.frame (x : Lives prog w ac W σ h) : ∃ m, Fr ac.h₀ ac.L h m ∧ FrR W m σ.fm := by
  obtain ⟨m, reals, y⟩ := x
  exact ⟨m, y.F, y.fm⟩
theorem Lives.keep (x : Lives prog w ac W σ h) : ∀ b o, ac.h₀.get? b = some o → h.get? b = some o := by
  obtain ⟨m, reals, y⟩ := x
  exact y.F.keep
theorem Lives.low (x : Lives prog w ac W σ h) {i : Nat} {a : Addr} (e : W.adr[i]? = some a) : 1 < a := by
  obtain ⟨m, reals, y⟩ := x
  exact y.low a (List.mem_of_getElem? e)
theorem Lives.size_low {K : Frag} {b : Nat} (x : Lives prog w ac W σ h) (O : Ok K b ac) : 1 < h.objs.size := by
  obtain ⟨m, reals, y⟩ := x
  obtain ⟨p, loose, mean, mg, mb, T⟩ := O.top
  have h1 := modules_low T.nolimit
  have h2 := y.F.above
  have h3 := y.F.ns.lt
  exact Nat.lt_trans h1 (Nat.lt_of_le_of_lt h2 h3)
theorem Lives.kin {K : Frag} {b : Nat} (x : Lives prog w ac W σ h) (O : Ok K b ac) : K.In h := O.kin.keeps x.keep

/-- the heap keeps all: the state lives on -/
theorem Lives.grow (x : Lives prog w ac W σ h) {h' : Heap} (k : ∀ b o, h.get? b = some o → h'.get? b = some o) : Lives prog w ac W σ h' := by
  obtain ⟨m, reals, y⟩ := x
  obtain ⟨oL, es, ep, hL, r⟩ := y.F.ns
  exact ⟨m, reals, ⟨⟨oL, es, ep, k _ _ hL, r⟩, fun b o e => k _ _ (y.F.keep b o e), y.F.above⟩, fun p hp => ⟨k _ _ (y.N p hp).1, (y.N p hp).2⟩, y.T, y.nd, y.low, y.la, y.lv, y.fm, y.ob, y.tb, y.bs⟩
theorem Lives.push (x : Lives prog w ac W σ h) (o : Obj) : Lives prog w ac W σ (h.push o) := x.grow fun _ _ e => Heap.get?_push_of_some _ e

/-- the frame's names change -/
theorem Lives.setFrame (x : Lives prog w ac W σ h) {h' : Heap} {m' : Str → Option Value} {fm' : List (Str × Option AV)} (hn : h'.Ns ac.L m') (hs : Heap.SameBut ac.L h h') (hf : FrR W m' fm') : Lives prog w ac W ⟨fm', σ.vh⟩ h' := by
  obtain ⟨m, reals, y⟩ := x
  exact ⟨m', reals, y.F.set hn hs, y.N.set hs, y.T, y.nd, y.low, y.la, y.lv, hf, y.ob, y.tb, y.bs⟩

/-- one object of the virtual heap changes -/
theorem Lives.upd (x : Lives prog w ac W σ h) {h' : Heap} {i : Nat} {a : Addr} {o : AO} {ob' : Obj} {o' : AO} (ho : σ.vh[i]? = some o) (ha : W.adr[i]? = some a) (hs : ∀ b ob, b ≠ a → h.get? b = some ob → h'.get? b = some ob) (hob : h'.get? a = some ob') (hr : RO prog w W ob' o') (ht : ∀ P ps, o' = .tab P ps → a = P := by nofun) :
    Lives prog w ac W ⟨σ.fm, σ.vh.set i o'⟩ h' := by
  obtain ⟨ob, h1, h2, h3, h4⟩ := x.atR ho ha
  obtain ⟨m, reals, y⟩ := x
  obtain ⟨oL, es, ep, hL, r⟩ := y.F.ns
  have hl : i < reals.length := by rw [y.lv]; exact (List.getElem?_eq_some_iff.mp ho).1
  refine ⟨m, reals.set i ob', ⟨⟨oL, es, ep, hs _ _ (Ne.symm h3) hL, r⟩, fun b q e => hs b q ?_ (y.F.keep b q e), y.F.above⟩, fun p hp => ?_, y.T, y.nd, y.low, ?_, ?_, y.fm, fun j q o2 e1 e2 => ?_, fun j P ps e => ?_, y.bs⟩
  · intro z; rw [z, h4] at e; cases e
  · rcases List.mem_append.mp hp with hp | hp
    · have n := y.N p (List.mem_append_left _ hp)
      refine ⟨hs _ _ (fun z => ?_) n.1, n.2⟩
      exact y.T p hp (z ▸ List.mem_of_getElem? ha)
    · obtain ⟨j, e1, e2⟩ := zip_mem hp
      rw [List.getElem?_set] at e2
      by_cases hj : i = j
      · subst hj
        rw [if_pos rfl, if_pos hl] at e2
        rw [ha] at e1
        have q1 := Option.some.inj e1
        have q2 := Option.some.inj e2
        rw [← q1, ← q2]
        exact ⟨hob, h3, h4⟩
      · rw [if_neg hj] at e2
        have n := y.N p (List.mem_append_right _ (zip_get e1 e2))
        exact ⟨hs _ _ (fun z => hj (nodup_idx y.nd ha (z ▸ e1))) n.1, n.2⟩
  · rw [List.length_set]; exact y.la
  · rw [List.length_set, List.length_set]; exact y.lv
  · rw [List.getElem?_set] at e1
    rw [List.getElem?_set] at e2
    by_cases hj : i = j
    · subst hj
      rw [if_pos rfl, if_pos hl] at e1
      rw [if_pos rfl, if_pos (y.lv ▸ hl)] at e2
      cases e1; cases e2; exact hr
    · rw [if_neg hj] at e1 e2
      exact y.ob j _ _ e1 e2
  · change (σ.vh.set i o')[j]? = _ at e
    rw [List.getElem?_set] at e
    by_cases hj : i = j
    · subst hj
      rw [if_pos rfl, if_pos (y.lv ▸ hl)] at e
      cases e
      rw [← ht P ps rfl]; exact ha
    · rw [if_neg hj] at e
      exact y.tb j P ps e

noncomputable def Wd.add (W : Wd) (a : Addr) : Wd := ⟨W.adr ++ [a], W.tups, W.base⟩
theorem Wd.le_add (W : Wd) (a : Addr) : W.le (W.add a) := ⟨fun n b h => by
  show (W.adr ++ [a])[n]? = some b
  rw [List.getElem?_append_left (List.getElem?_eq_some_iff.mp h).1]; exact h, fun _ h => h, rfl⟩
theorem Wd.add_get (W : Wd) (a : Addr) : (W.add a).adr[W.adr.length]? = some a := by
  show (W.adr ++ [a])[W.adr.length]? = some a
  rw [List.getElem?_append_right (Nat.le_refl _), Nat.sub_self]; rfl
theorem Lives.len (x : Lives prog w ac W σ h) : W.adr.length = σ.vh.length := by
  obtain ⟨m, reals, y⟩ := x
  rw [y.la, y.lv]

/-- a new object of the virtual heap, at an address that was free -/
theorem Lives.add (x : Lives prog w ac W σ h) {h' : Heap} {a : Addr} {ob : Obj} {o : AO} (k : ∀ b q, h.get? b = some q → h'.get? b = some q) (hfree : h.get? a = none) (hob : h'.get? a = some ob) (hr : RO prog w (W.add a) ob o) (hlow : 1 < a) (ht : ∀ P ps, o = .tab P ps → a = P := by nofun) :
    Lives prog w ac (W.add a) ⟨σ.fm, σ.vh ++ [o]⟩ h' := by
  obtain ⟨m, reals, y⟩ := x.grow k
  obtain ⟨m0, reals0, y0⟩ := x
  have hL : a ≠ ac.L := fun z => by
    obtain ⟨oL, es, ep, hL, r⟩ := y0.F.ns
    rw [z, hL] at hfree; cases hfree
  have h0 : ac.h₀.get? a = none := by
    cases q : ac.h₀.get? a with
    | none => rfl
    | some z => have := y0.F.keep _ _ q; rw [hfree] at this; cases this
  refine ⟨m, reals ++ [ob], y.F, fun p hp => ?_, fun p hp => ?_, ?_, fun b hb => ?_, ?_, ?_, y.fm.mono (W.le_add a), fun j q o2 e1 e2 => ?_, fun j P ps e => ?_, y.bs⟩
  · rcases List.mem_append.mp hp with hp | hp
    · exact y.N p (List.mem_append_left _ hp)
    · obtain ⟨j, e1, e2⟩ := zip_mem hp
      change (W.adr ++ [a])[j]? = _ at e1
      rw [List.getElem?_append] at e1 e2
      by_cases hj : j < reals.length
      · rw [if_pos hj] at e2
        rw [if_pos (y.la ▸ hj)] at e1
        exact y.N p (List.mem_append_right _ (zip_get e1 e2))
      · rw [if_neg hj] at e2
        rw [if_neg (y.la ▸ hj)] at e1
        have hj0 : j - reals.length = 0 := by
          have := (List.getElem?_eq_some_iff.mp e2).1
          simp at this; omega
        rw [y.la] at e1
        rw [hj0] at e1 e2
        simp at e1 e2
        rw [← e1, ← e2]
        exact ⟨hob, hL, h0⟩
  · intro z
    rcases List.mem_append.mp z with z | z
    · exact y.T p hp z
    · simp at z
      have n := (y0.N p (List.mem_append_left _ hp)).1
      rw [z, hfree] at n; cases n
  · show (W.adr ++ [a]).Nodup
    rw [List.nodup_append]
    refine ⟨y.nd, by simp, fun b hb c hc => ?_⟩
    simp at hc
    subst hc
    intro z
    subst z
    obtain ⟨i, hi⟩ := List.getElem?_of_mem hb
    have hil : i < reals0.length := by
      rw [← y0.la]; exact (List.getElem?_eq_some_iff.mp hi).1
    have n := (y0.N _ (List.mem_append_right _ (zip_get hi (List.getElem?_eq_getElem hil)))).1
    rw [hfree] at n; cases n
  · rcases List.mem_append.mp hb with hb | hb
    · exact y.low b hb
    · simp at hb; rw [hb]; exact hlow
  · show (W.adr ++ [a]).length = _
    rw [List.length_append, List.length_append, y.la]; rfl
  · show _ = (σ.vh ++ [o]).length
    rw [List.length_append, List.length_append, y.lv]; rfl
  · change (σ.vh ++ [o])[j]? = _ at e2
    rw [List.getElem?_append] at e1 e2
    by_cases hj : j < reals.length
    · rw [if_pos hj] at e1
      rw [if_pos (y.lv ▸ hj)] at e2
      exact (y.ob j _ _ e1 e2).mono (W.le_add a)
    · rw [if_neg hj] at e1
      rw [if_neg (y.lv ▸ hj)] at e2
      have hj0 : j - reals.length = 0 := by
        have := (List.getElem?_eq_some_iff.mp e1).1
        simp at this; omega
      rw [← y.lv, hj0] at e2
      rw [hj0] at e1
      simp at e1 e2
      subst e1; subst e2
      exact hr
  · change (σ.vh ++ [o])[j]? = _ at e
    show (W.adr ++ [a])[j]? = some P
    rw [List.getElem?_append] at e ⊢
    by_cases hj : j < σ.vh.length
    · rw [if_pos hj] at e
      rw [if_pos (by rw [y0.la, y0.lv]; exact hj)]
      exact y.tb j P ps e
    · rw [if_neg hj] at e
      rw [if_neg (by rw [y0.la, y0.lv]; exact hj)]
      have hj0 : j - σ.vh.length = 0 := by
        have := (List.getElem?_eq_some_iff.mp e).1
        simp at this; omega
      rw [hj0] at e
      rw [y0.la, y0.lv, hj0]
      simp at e
      simp [ht P ps e]

noncomputable def Wd.addT (W : Wd) (p : Addr × Obj) : Wd := ⟨W.adr, p :: W.tups, W.base⟩
theorem Wd.le_addT (W : Wd) (p : Addr × Obj) : W.le (W.addT p) := ⟨fun _ _ h => h, fun _ h => .tail _ h, rfl⟩
theorem Lives.idx (x : Lives prog w ac W σ h) {a : Addr} (ha : a ∈ W.adr) : ∃ ob, h.get? a = some ob := by
  obtain ⟨m, reals, y⟩ := x
  obtain ⟨i, hi⟩ := List.getElem?_of_mem ha
  have hil : i < reals.length := by
    rw [← y.la]; exact (List.getElem?_eq_some_iff.mp hi).1
  exact ⟨_, (y.N _ (List.mem_append_right _ (zip_get hi (List.getElem?_eq_getElem hil)))).1⟩
/-- a new real object beside the virtual heap (a tuple, an iterator) -/
theorem Lives.addT (x : Lives prog w ac W σ h) {h' : Heap} {a : Addr} {ob : Obj} (k : ∀ b q, h.get? b = some q → h'.get? b = some q) (hfree : h.get? a = none) (hob : h'.get? a = some ob) :
    Lives prog w ac (W.addT (a, ob)) σ h' := by
  have hadr : a ∉ W.adr := fun z => by
    obtain ⟨q, e⟩ := x.idx z
    rw [hfree] at e; cases e
  obtain ⟨m, reals, y⟩ := x.grow k
  obtain ⟨m0, reals0, y0⟩ := x
  have hL : a ≠ ac.L := fun z => by
    obtain ⟨oL, es, ep, hL, r⟩ := y0.F.ns
    rw [z, hL] at hfree; cases hfree
  have h0 : ac.h₀.get? a = none := by
    cases q : ac.h₀.get? a with
    | none => rfl
    | some z => have := y0.F.keep _ _ q; rw [hfree] at this; cases this
  refine ⟨m, reals, y.F, fun p hp => ?_, fun p hp => ?_, y.nd, y.low, y.la, y.lv, y.fm.mono (W.le_addT _), fun j q o2 e1 e2 => (y.ob j _ _ e1 e2).mono (W.le_addT _), y.tb, y.bs⟩
  · change p ∈ (a, ob) :: (W.tups ++ W.adr.zip reals) at hp
    rcases List.mem_cons.mp hp with rfl | hp
    · exact ⟨hob, hL, h0⟩
    · exact y.N p hp
  · change p ∈ (a, ob) :: W.tups at hp
    rcases List.mem_cons.mp hp with rfl | hp
    · exact hadr
    · exact y.T p hp

noncomputable def Wd.swap (W : Wd) (a : Addr) (n : List (Addr × Obj)) : Wd := ⟨W.adr, n ++ W.tups.filter (fun p => decide (p.1 ≠ a)), W.base⟩
/-- what stands at a is no value: an iterator -/
noncomputable def NotVal (o : Obj) : Prop := (o.cls ≠ .type "tuple" ∧ o.cls ≠ .type "range" ∧ o.cls ≠ .type "function") ∨ ∃ es ep, o.data = .dict es ep
noncomputable def Passing (W : Wd) (a : Addr) : Prop := ∀ o, (a, o) ∈ W.tups → NotVal o
theorem NotVal.tup {vs : List Value} {e : Nat} (h : NotVal (tupObj vs e)) : False := by
  rcases h with h | ⟨es, ep, h⟩
  · exact h.1 rfl
  · cases h
theorem NotVal.rng {lo hi : Int} {t u v : Tok} (h : NotVal (rngObj lo hi t u v)) : False := by
  rcases h with h | ⟨es, ep, h⟩
  · exact h.2.1 rfl
  · cases h
theorem NotVal.lam {ob : Obj} {args : Arguments} {body : Expr} {scope : Scope} {cl' : List (Str × Addr)} {ql : Str} {cA : Addr} (q : LamObj ob args body scope cl' ql cA) (h : NotVal ob) : False := by
  obtain ⟨q1, _, _, pm, ct, nm, q2⟩ := q
  rcases h with h | ⟨es, ep, h⟩
  · exact h.2.2 q1
  · rw [q2] at h; cases h
theorem swap_mem {W : Wd} {a b : Addr} {o : Obj} {n : List (Addr × Obj)} (h : (b, o) ∈ W.tups) (hn : b ≠ a) : (b, o) ∈ (W.swap a n).tups :=
  List.mem_append_right _ (List.mem_filter.mpr ⟨h, by simpa using hn⟩)
theorem swap_both {W : Wd} {a : Addr} {n : List (Addr × Obj)} (hn : Passing W a) : (∀ {v : Value} {x : AV}, VR W v x → VR (W.swap a n) v x) ∧ ∀ {vs : List Value} {xs : List AV}, VRs W vs xs → VRs (W.swap a n) vs xs :=
  VR.both .none .bool .int .str .con (fun h => .ref h) (fun h r => .tup (swap_mem h fun q => (hn _ (q ▸ h)).tup) r) (fun h => .rng (swap_mem h fun q => (hn _ (q ▸ h)).rng)) (fun h q r t => .lam (swap_mem h fun e => (hn _ (e ▸ h)).lam q) q r t) (fun h q r t => .blist h q r t) .nil .cons
theorem VR.swap {W : Wd} {a : Addr} {n : List (Addr × Obj)} (hn : Passing W a) {v : Value} {x : AV} (h : VR W v x) : VR (W.swap a n) v x := (swap_both hn).1 h
theorem VRs.swap {W : Wd} {a : Addr} {n : List (Addr × Obj)} (hn : Passing W a) {vs : List Value} {xs : List AV} (h : VRs W vs xs) : VRs (W.swap a n) vs xs := (swap_both hn).2 h
theorem FrR.swap {W : Wd} {a : Addr} {n : List (Addr × Obj)} (hn : Passing W a) {m : Str → Option Value} {fm : List (Str × Option AV)} (h : FrR W m fm) : FrR (W.swap a n) m fm := fun x y e => by
  obtain ⟨v, h1, h2⟩ := h x y e
  exact ⟨v, h1, h2.swap hn⟩
theorem NsR.swap {W : Wd} {a : Addr} {n : List (Addr × Obj)} (hn : Passing W a) {es : List DictEntry} {r : List (Str × AV)} (h : NsR W es r) : NsR (W.swap a n) es r := by
  induction h with
  | nil => exact .nil
  | cons h1 h2 _ ih => exact .cons h1 (h2.swap hn) ih
theorem KVR.swap {W : Wd} {a : Addr} {n : List (Addr × Obj)} (hn : Passing W a) {Κ : Type} {es : List (Κ × Value)} {r : List (Κ × AV)} (h : KVR W es r) : KVR (W.swap a n) es r := by
  induction h with
  | nil => exact .nil
  | cons h1 _ ih => exact .cons (h1.swap hn) ih
theorem RO.swap {W : Wd} {a : Addr} {n : List (Addr × Obj)} (hn : Passing W a) {ob : Obj} {o : AO} (h : RO prog w W ob o) : RO prog w (W.swap a n) ob o := by
  cases o with
  | list xs => obtain ⟨vs, e, h1, h2⟩ := h; exact ⟨vs, e, h1, h2.swap hn⟩
  | inst C d => obtain ⟨da, h1, h2⟩ := h; exact ⟨da, h1, h2⟩
  | ns kvs => obtain ⟨es, k, h1, h2⟩ := h; exact ⟨es, k, h1, h2.swap hn⟩
  | idict kvs => obtain ⟨ps, h1, h2⟩ := h; exact ⟨ps, h1, h2.swap hn⟩
  | cell v =>
    obtain ⟨v', h1, h2⟩ := h
    refine ⟨v', h1, ?_⟩
    cases h2 with
    | none => exact .none
    | some h2 => exact .some (h2.swap hn)
  | tab P ps => obtain ⟨ps, h1, h2⟩ := h; exact ⟨ps, h1, TabR.mono' (W := W) (W' := W.swap a n) (fun _ _ e => e) h2⟩
  | code ql => exact h
/-- a real object beside the virtual heap changes, or is forgotten -/
theorem Lives.swapT (x : Lives prog w ac W σ h) {h' : Heap} {a : Addr} {ob : Obj} (ha : (a, ob) ∈ W.tups) (hn : NotVal ob) (hs : ∀ b o, b ≠ a → h.get? b = some o → h'.get? b = some o) (n : List (Addr × Obj)) (hnew : ∀ p ∈ n, p.1 = a ∧ h'.get? a = some p.2) :
    Lives prog w ac (W.swap a n) σ h' := by
  have hh := x.tup ha
  have hno : Passing W a := fun o z => by
    have := x.tup z
    rw [hh] at this
    cases this
    exact hn
  obtain ⟨m, reals, y⟩ := x
  have na := y.N _ (List.mem_append_left _ ha)
  have nadr := y.T _ ha
  obtain ⟨oL, es, ep, hL, r⟩ := y.F.ns
  refine ⟨m, reals, ⟨⟨oL, es, ep, hs _ _ (Ne.symm na.2.1) hL, r⟩, fun b q e => hs b q ?_ (y.F.keep b q e), y.F.above⟩, fun p hp => ?_, fun p hp => ?_, y.nd, y.low, y.la, y.lv, y.fm.swap hno, fun i q o e1 e2 => (y.ob i q o e1 e2).swap hno, y.tb, y.bs⟩
  · rintro rfl; rw [na.2.2] at e; cases e
  · rcases List.mem_append.mp hp with hp | hp
    · rcases List.mem_append.mp hp with hp | hp
      · obtain ⟨h1, h2⟩ := hnew p hp
        rw [h1]
        exact ⟨h2, na.2⟩
      · obtain ⟨h1, h2⟩ := List.mem_filter.mp hp
        have z := y.N p (List.mem_append_left _ h1)
        exact ⟨hs _ _ (by simpa using h2) z.1, z.2⟩
    · have z := y.N p (List.mem_append_right _ hp)
      refine ⟨hs _ _ ?_ z.1, z.2⟩
      rintro q
      obtain ⟨i, e1, e2⟩ := zip_mem hp
      exact nadr (q ▸ List.mem_of_getElem? e1)
  · rcases List.mem_append.mp hp with hp | hp
    · rw [(hnew p hp).1]; exact nadr
    · exact y.T p (List.mem_filter.mp hp).1
theorem get_size_none (h : Heap) : h.get? h.objs.size = none := by
  cases q : h.get? h.objs.size with
  | none => rfl
  | some o => exact absurd (Heap.lt_size q) (Nat.lt_irrefl _)
end

/-- the static context of an activation -/
structure Cx where
  scope : Scope
  cells : List (Str × Nat)
  loc : Option (List (Str × Option AV))
  qual : Str
  code : Value

/-- a comprehension's frame: a real dict beside the virtual heap -/
noncomputable def LocR (W : Wd) (a : Addr) (m : List (Str × Option AV)) : Prop := ∃ ob es ep m', (a, ob) ∈ W.tups ∧ ob.data = .dict es ep ∧ StrKeys es ∧ (∀ name, nsFind es name = m' name) ∧ FrR W m' m
theorem LocR.mono {W W' : Wd} (hle : W.le W') {a : Addr} {m : List (Str × Option AV)} (h : LocR W a m) : LocR W' a m := by
  obtain ⟨ob, es, ep, m', h1, h2, h3, h4, h5⟩ := h
  exact ⟨ob, es, ep, m', hle.2.1 _ h1, h2, h3, h4, h5.mono hle⟩

structure EnvR (W : Wd) (c : Cx) (ac : Act) (env : Env) : Prop where
  scope : env.scope = c.scope
  globals : env.globals = mainGlobals
  builtins : env.builtins = builtinsNs
  kind : c.scope.kind = .function
  cells : ClR W env.cells c.cells
  loc : match c.loc with
    | none => env.locals = ac.L
    | some m => LocR W env.locals m
  frame : env.frame = some ac.L
  code : env.code = c.code
  qual : env.qual = c.qual
theorem EnvR.mono {W W' : Wd} (hle : W.le W') {c : Cx} {ac : Act} {env : Env} (e : EnvR W c ac env) : EnvR W' c ac env := by
  refine ⟨e.scope, e.globals, e.builtins, e.kind, fun x k q => ?_, ?_, e.frame, e.code, e.qual⟩
  · obtain ⟨a, h1, h2⟩ := e.cells x k q
    exact ⟨a, hle.1 _ _ h1, h2⟩
  · have := e.loc
    cases h : c.loc with
    | none => rw [h] at this; exact this
    | some k => rw [h] at this; exact this.mono hle

section
variable (prog : Program) (w : World) (K : Frag)
/-- the triple: from σ the tree t ends with y in σ' -/
noncomputable def Tr {α β : Type} (RR : Wd → α → β → Prop) (b : Nat) (c : Cx) (t : Env → Sem α) (σ : AS) (y : β) (σ' : AS) : Prop :=
  ∀ (ac : Act) (env : Env) (W : Wd) (s : Shared) (Q : α → Shared → Prop) (E : Value → Shared → Prop), Ok K b ac → EnvR W c ac env → Lives prog w ac W σ s.heap →
    (∀ v W' h' tk', W.le W' → Lives prog w ac W' σ' h' → RR W' v y → Q v { s with heap := h', toks := tk' }) →
    wpAny (model prog w) ac.A (t env) Q E s
end

noncomputable def strIn (a b : Str) : Bool := !(Builtin.Str.occurrences b a 0 b.length 1).isEmpty

/-! the parts of a value, of an object -/
noncomputable def AV.int? (x : AV) : Option Int := AV.casesOn (motive_1 := fun _ => Option Int) x .none (fun _ => .none) some (fun _ => .none) (fun _ => .none) (fun _ => .none) (fun _ => .none) (fun _ _ => .none) (fun _ _ _ _ _ _ => .none) (fun _ => .none)
noncomputable def AV.str? (x : AV) : Option Str := AV.casesOn (motive_1 := fun _ => Option Str) x .none (fun _ => .none) (fun _ => .none) some (fun _ => .none) (fun _ => .none) (fun _ => .none) (fun _ _ => .none) (fun _ _ _ _ _ _ => .none) (fun _ => .none)
noncomputable def AV.bool? (x : AV) : Option Bool := AV.casesOn (motive_1 := fun _ => Option Bool) x .none some (fun _ => .none) (fun _ => .none) (fun _ => .none) (fun _ => .none) (fun _ => .none) (fun _ _ => .none) (fun _ _ _ _ _ _ => .none) (fun _ => .none)
noncomputable def AV.ref? (x : AV) : Option Nat := AV.casesOn (motive_1 := fun _ => Option Nat) x .none (fun _ => .none) (fun _ => .none) (fun _ => .none) (fun _ => .none) some (fun _ => .none) (fun _ _ => .none) (fun _ _ _ _ _ _ => .none) (fun _ => .none)
noncomputable def AV.none? (x : AV) : Option Unit := AV.casesOn (motive_1 := fun _ => Option Unit) x (some ()) (fun _ => .none) (fun _ => .none) (fun _ => .none) (fun _ => .none) (fun _ => .none) (fun _ => .none) (fun _ _ => .none) (fun _ _ _ _ _ _ => .none) (fun _ => .none)
noncomputable def AO.list? (o : AO) : Option (List AV) := AO.casesOn o some (fun _ _ => none) (fun _ => none) (fun _ => none) (fun _ => none) (fun _ _ => none) (fun _ => none)
noncomputable def AO.idict? (o : AO) : Option (List (Int × AV)) := AO.casesOn o (fun _ => none) (fun _ _ => none) (fun _ => none) some (fun _ => none) (fun _ _ => none) (fun _ => none)
theorem AV.int?_of {x : AV} {i : Int} (h : x.int? = some i) : x = .int i := by cases x <;> cases h; rfl
theorem AV.str?_of {x : AV} {i : Str} (h : x.str? = some i) : x = .str i := by cases x <;> cases h; rfl
theorem AV.bool?_of {x : AV} {i : Bool} (h : x.bool? = some i) : x = .bool i := by cases x <;> cases h; rfl
theorem AV.ref?_of {x : AV} {i : Nat} (h : x.ref? = some i) : x = .ref i := by cases x <;> cases h; rfl
theorem AV.none?_of {x : AV} {i : Unit} (h : x.none? = some i) : x = .none := by cases x <;> cases h; rfl
theorem AO.list?_of {o : AO} {xs : List AV} (h : o.list? = some xs) : o = .list xs := by cases o <;> cases h; rfl
theorem AO.idict?_of {o : AO} {xs : List (Int × AV)} (h : o.idict? = some xs) : o = .idict xs := by cases o <;> cases h; rfl
theorem bind_of {α β : Type} {o : Option α} {f : α → Option β} {z : β} (h : o.bind f = some z) : ∃ a, o = some a ∧ f a = some z := by
  cases o with
  | none => cases h
  | some a => exact ⟨a, rfl, h⟩
theorem or_of {α : Type} {o r : Option α} {z : α} (h : o.or r = some z) : o = some z ∨ r = some z := by
  cases o with
  | none => exact .inr h
  | some a => exact .inl h
theorem map_of {α β : Type} {o : Option α} {f : α → β} {z : β} (h : o.map f = some z) : ∃ a, o = some a ∧ f a = z := by
  cases o with
  | none => cases h
  | some a => exact ⟨a, rfl, Option.some.inj h⟩
/-- two of a kind -/
noncomputable def two {κ α : Type} (p : AV → Option κ) (f : κ → κ → Option α) (x y : AV) : Option α := (p x).bind fun a => (p y).bind fun b => f a b
theorem two_of {κ α : Type} {p : AV → Option κ} {f : κ → κ → Option α} {x y : AV} {z : α} (h : two p f x y = some z) : ∃ a b, p x = some a ∧ p y = some b ∧ f a b = some z := by
  obtain ⟨a, h1, h2⟩ := bind_of h
  obtain ⟨b, h3, h4⟩ := bind_of h2
  exact ⟨a, b, h1, h3, h4⟩
section
variable {W : Wd} {x y : AV} {v u : Value}
theorem VR.of_int (h : VR W v x) {i : Int} (e : x.int? = some i) : ∃ t, v = .int i t := by rw [AV.int?_of e] at h; exact h.inv
theorem VR.of_str (h : VR W v x) {i : Str} (e : x.str? = some i) : ∃ t, v = .str i t := by rw [AV.str?_of e] at h; exact h.inv
theorem VR.of_bool (h : VR W v x) {i : Bool} (e : x.bool? = some i) : v = .bool i := by rw [AV.bool?_of e] at h; exact h.inv
theorem two_int {α : Type} {f : Int → Int → Option α} {z : α} (h : two AV.int? f x y = some z) (h1 : VR W v x) (h2 : VR W u y) : ∃ a t c t', v = .int a t ∧ u = .int c t' ∧ f a c = some z := by
  obtain ⟨a, b, e1, e2, e3⟩ := two_of h
  obtain ⟨t, q1⟩ := h1.of_int e1
  obtain ⟨t', q2⟩ := h2.of_int e2
  exact ⟨a, t, b, t', q1, q2, e3⟩
theorem two_str {α : Type} {f : Str → Str → Option α} {z : α} (h : two AV.str? f x y = some z) (h1 : VR W v x) (h2 : VR W u y) : ∃ a t c t', v = .str a t ∧ u = .str c t' ∧ f a c = some z := by
  obtain ⟨a, b, e1, e2, e3⟩ := two_of h
  obtain ⟨t, q1⟩ := h1.of_str e1
  obtain ⟨t', q2⟩ := h2.of_str e2
  exact ⟨a, t, b, t', q1, q2, e3⟩
theorem two_bool {α : Type} {f : Bool → Bool → Option α} {z : α} (h : two AV.bool? f x y = some z) (h1 : VR W v x) (h2 : VR W u y) : ∃ a c, v = .bool a ∧ u = .bool c ∧ f a c = some z := by
  obtain ⟨a, b, e1, e2, e3⟩ := two_of h
  exact ⟨a, b, h1.of_bool e1, h2.of_bool e2, e3⟩
end

noncomputable def binop (op : Operator) (x y : AV) : Option AV := Operator.casesOn op
  ((two AV.int? (fun a b => some (.int (a + b))) x y).or (two AV.str? (fun a b => if a.length + b.length ≤ 2 ^ 20 then some (.str (a ++ b)) else none) x y))
  (two AV.int? (fun a b => some (.int (a - b))) x y)
  (two AV.int? (fun a b => if Builtin.Int.intBits a ≤ 64 then some (.int (a * b)) else none) x y)
  none none
  (two AV.int? (fun a b => if b = 0 then none else some (.int (a.fmod b))) x y)
  (two AV.int? (fun a b => if 0 ≤ b ∧ (Builtin.Int.intBits a : Int) * b ≤ 2 ^ 27 then some (.int (a ^ b.toNat)) else none) x y)
  none none none none none
  (two AV.int? (fun a b => if b = 0 ∨ ¬ b.natAbs < 1073741824 then none else some (.int (a.fdiv b))) x y)

noncomputable def isNoneAV (x : AV) : Option Bool := AV.casesOn (motive_1 := fun _ => Option Bool) x (some true) (fun _ => some false) (fun _ => some false) (fun _ => some false) (fun _ => none) (fun _ => some false) (fun _ => some false) (fun _ _ => some false) (fun _ _ _ _ _ _ => some false) (fun _ => some false)

noncomputable def truthyAV (x : AV) : Option Bool := x.bool?

noncomputable def intMapGet (kvs : List (Int × AV)) (k : Int) : Option AV := (kvs.find? fun kv => kv.1 = k).map (·.2)

/-- the plain data that a value is, to a depth -/
noncomputable def toPy0 (x : AV) : Option PyData := AV.casesOn (motive_1 := fun _ => Option PyData) x (some .none) (fun b => some (.bool b)) (fun i => some (.int i)) (fun s => some (.str s)) (fun _ => none) (fun _ => none) (fun _ => none) (fun _ _ => none) (fun _ _ _ _ _ _ => none) (fun _ => none)
noncomputable def toPyL (f : AV → Option PyData) (xs : List AV) : Option (List PyData) := xs.foldr (fun x r => (f x).bind fun d => r.map (d :: ·)) (some [])
noncomputable def toPyS (vh : List AO) (f : AV → Option PyData) (x : AV) : Option PyData := AV.casesOn (motive_1 := fun _ => Option PyData) x (some .none) (fun b => some (.bool b)) (fun i => some (.int i)) (fun s => some (.str s)) (fun _ => none)
  (fun i => ((vh[i]?).bind AO.list?).bind fun xs => (toPyL f xs).map .list) (fun xs => (toPyL f xs).map .tuple) (fun _ _ => none) (fun _ _ _ _ _ _ => none) (fun _ => none)
noncomputable def toPy (vh : List AO) (n : Nat) : AV → Option PyData := Nat.rec toPy0 (fun _ f => toPyS vh f) n
noncomputable def toPys (vh : List AO) (n : Nat) (xs : List AV) : Option (List PyData) := toPyL (toPy vh n) xs
theorem toPy_int (vh : List AO) (n : Nat) (i : Int) : toPy vh n (.int i) = some (.int i) := by cases n <;> rfl
theorem toPy_ref {vh : List AO} {i : Nat} {xs : List AV} (n : Nat) (h : vh[i]? = some (.list xs)) : toPy vh (n + 1) (.ref i) = (toPys vh n xs).map .list := by
  show ((vh[i]?).bind AO.list?).bind _ = _
  rw [h]; rfl
theorem toPys_cons {vh : List AO} {n : Nat} {x : AV} {xs : List AV} {d : PyData} {ds : List PyData} (h1 : toPy vh n x = some d) (h2 : toPys vh n xs = some ds) : toPys vh n (x :: xs) = some (d :: ds) := by
  show (toPy vh n x).bind (fun d => (toPys vh n xs).map (d :: ·)) = _
  rw [h1, h2]; rfl
noncomputable def cmpEq (vh : List AO) (x y : AV) : Option Bool := (toPy vh 4 x).bind fun d => (toPy vh 4 y).bind fun e => if (SeqAt.shaped d && SeqAt.shaped e) = true then some (PyData.eqv d e) else none
noncomputable def eqop (vh : List AO) (x y : AV) : Option Bool := (two AV.int? (fun a b => some (a == b)) x y).or ((two AV.str? (fun a b => some (a == b)) x y).or ((two AV.bool? (fun a b => some (a == b)) x y).or (cmpEq vh x y)))
noncomputable def neop (vh : List AO) (x y : AV) : Option Bool := (two AV.int? (fun a b => some (a != b)) x y).or ((two AV.str? (fun a b => some (a != b)) x y).or ((two AV.bool? (fun a b => some (a != b)) x y).or ((cmpEq vh x y).map (!·))))
noncomputable def inop (vh : List AO) (x y : AV) : Option Bool := (two AV.str? (fun a b => some (strIn a b)) x y).or (x.int?.bind fun a => (y.ref?.bind fun n => (vh[n]?).bind AO.idict?).map fun kvs => (intMapGet kvs a).isSome)
noncomputable def cmpop (vh : List AO) (op : CmpOp) (x y : AV) : Option Bool := CmpOp.casesOn op
  (eqop vh x y)
  (neop vh x y)
  (two AV.int? (fun a b => some (decide (a < b))) x y)
  (two AV.int? (fun a b => some (decide (a ≤ b))) x y)
  (two AV.int? (fun a b => some (decide (b < a))) x y)
  (two AV.int? (fun a b => some (decide (b ≤ a))) x y)
  (y.none?.bind fun _ => isNoneAV x)
  (y.none?.bind fun _ => (isNoneAV x).map (!·))
  (inop vh x y)
  (two AV.str? (fun a b => some (!strIn a b)) x y)

section
variable {prog : Program} {w : World} {K : Frag} {A : Around} {E : Value → Shared → Prop} {s : Shared} {W : Wd}

theorem KVR.find {W : Wd} {es : List (Int × Value)} {r : List (Int × AV)} (h : KVR W es r) (k : Int) : OVR W (valueAt es k) (intMapGet r k) := by
  unfold valueAt intMapGet
  induction h with
  | nil => exact .none
  | @cons k' v x es r h1 _ ih =>
    rw [List.find?_cons, List.find?_cons]
    by_cases hk : k' = k
    · simp only [hk, decide_true]; exact .some h1
    · simp only [hk, decide_false]; exact ih
theorem OVR.isSome {v : Option Value} {x : Option AV} (h : OVR W v x) : v.isSome = x.isSome := by cases h <;> rfl

theorem ite_of {α : Type} {p : Prop} [Decidable p] {a z : α} (h : (if p then some a else none) = some z) : p ∧ a = z := by
  by_cases q : p
  · rw [if_pos q] at h; exact ⟨q, Option.some.inj h⟩
  · rw [if_neg q] at h; cases h
theorem ite_not {α : Type} {p : Prop} [Decidable p] {a z : α} (h : (if p then none else some a) = some z) : ¬ p ∧ a = z := by
  by_cases q : p
  · rw [if_pos q] at h; cases h
  · rw [if_neg q] at h; exact ⟨q, Option.some.inj h⟩
theorem binop_ok {op : Operator} {x y z : AV} {v u : Value} (hb : binop op x y = some z) (h1 : VR W v x) (h2 : VR W u y) {Q : Value → Shared → Prop} (h : ∀ r tk, VR W r z → Q r { s with toks := tk }) :
    wpAny (model prog w) A (binaryOp op v u) Q E s := by
  cases op with
  | Add =>
    rcases or_of hb with hb | hb
    · obtain ⟨a, t, c, t', rfl, rfl, e⟩ := two_int hb h1 h2
      exact PyProof.Rows.add_int (h _ _ (Option.some.inj e ▸ .int _ _))
    · obtain ⟨a, t, c, t', rfl, rfl, e⟩ := two_str hb h1 h2
      obtain ⟨q, e⟩ := ite_of e
      exact PyProof.Rows.add_str (fun t' tk => h _ _ (e ▸ .str _ _)) (by rw [sizeLine_eq]; omega)
  | Sub =>
    obtain ⟨a, t, c, t', rfl, rfl, e⟩ := two_int hb h1 h2
    exact PyProof.Rows.sub_int (h _ _ (Option.some.inj e ▸ .int _ _))
  | Mult =>
    obtain ⟨a, t, c, t', rfl, rfl, e⟩ := two_int hb h1 h2
    obtain ⟨q, e⟩ := ite_of e
    exact PyProof.Rows.mul_int (h _ _ (e ▸ .int _ _)) (IntMulOk.of_left q)
  | FloorDiv =>
    obtain ⟨a, t, c, t', rfl, rfl, e⟩ := two_int hb h1 h2
    obtain ⟨q, e⟩ := ite_not e
    exact PyProof.Rows.floordiv_int (fun z => q (.inl z)) (h _ _ (e ▸ .int _ _)) (.inl (PyProof.noPylong_small (Classical.not_not.mp fun z => q (.inr z))))
  | Mod =>
    obtain ⟨a, t, c, t', rfl, rfl, e⟩ := two_int hb h1 h2
    obtain ⟨q, e⟩ := ite_not e
    exact PyProof.Rows.mod_int' q (h _ _ (e ▸ .int _ _))
  | Pow =>
    obtain ⟨a, t, c, t', rfl, rfl, e⟩ := two_int hb h1 h2
    obtain ⟨q, e⟩ := ite_of e
    exact PyProof.Rows.pow_int q.1 q.2 (h _ _ (e ▸ .int _ _))
  | _ => cases hb

theorem isNone_ok {x : AV} {v : Value} {b : Bool} (hb : isNoneAV x = some b) (h : VR W v x) : (v == .none) = b := by
  have h := h.inv
  cases x with
  | none => cases h; cases hb; rfl
  | con u => cases hb
  | bool b => cases h; cases hb; rfl
  | int _ => obtain ⟨t, rfl⟩ := h; cases hb; rfl
  | str _ => obtain ⟨t, rfl⟩ := h; cases hb; rfl
  | ref _ => obtain ⟨a, rfl, _⟩ := h; cases hb; rfl
  | tup _ => obtain ⟨a, _, _, rfl, _⟩ := h; cases hb; rfl
  | rng _ _ => obtain ⟨a, _, _, _, rfl, _⟩ := h; cases hb; rfl
  | lam _ _ _ _ _ _ => obtain ⟨a, _, _, _, rfl, _⟩ := h; cases hb; rfl
  | blist _ => obtain ⟨a, _, _, rfl, _⟩ := h; cases hb; rfl

theorem toPy0_ok {h : Heap} {v : Value} {x : AV} {d : PyData} (hv : VR W v x) (e : toPy0 x = some d) : ∃ as, Reads h v d as := by
  have hv := hv.inv
  cases x with
  | none => cases hv; cases e; exact ⟨_, Reads.none⟩
  | bool b => cases hv; cases e; exact ⟨_, Reads.bool b⟩
  | int i => obtain ⟨t, rfl⟩ := hv; cases e; exact ⟨_, Reads.int i t⟩
  | str i => obtain ⟨t, rfl⟩ := hv; cases e; exact ⟨_, Reads.str i t⟩
  | _ => cases e
theorem toPyL_ok {h : Heap} {f : AV → Option PyData} (H : ∀ {v : Value} {x : AV} {d : PyData}, VR W v x → f x = some d → ∃ as, Reads h v d as) {vs : List Value} {xs : List AV} (hv : VRs W vs xs) : ∀ {ds : List PyData}, toPyL f xs = some ds → ∃ as, ReadsAll h vs ds as := by
  refine VRs.ind (M := fun vs xs => ∀ {ds : List PyData}, toPyL f xs = some ds → ∃ as, ReadsAll h vs ds as) (fun e => ?_) (fun h1 h2 ih => ?_) hv
  · cases e; exact ⟨_, ReadsAll.nil⟩
  · intro ds e
    obtain ⟨d, e1, e2⟩ := bind_of e
    obtain ⟨ds, e3, rfl⟩ := map_of e2
    obtain ⟨as, r⟩ := H h1 e1
    obtain ⟨bs, r'⟩ := ih e3
    exact ⟨_, ReadsAll.cons r r'⟩
theorem toPy_ok {ac : Act} {σ : AS} {h : Heap} (Lv : Lives prog w ac W σ h) (n : Nat) : ∀ {v : Value} {x : AV} {d : PyData}, VR W v x → toPy σ.vh n x = some d → ∃ as, Reads h v d as := by
  induction n with
  | zero => exact toPy0_ok
  | succ n ih =>
    intro v x d hv e
    cases x with
    | ref i =>
      obtain ⟨a, rfl, ha⟩ := hv.inv
      obtain ⟨xs, e1, e2⟩ := bind_of e
      obtain ⟨o, e3, e4⟩ := bind_of e1
      obtain ⟨ds, e5, rfl⟩ := map_of e2
      obtain ⟨ob, g1, ⟨vs, k, g2, g3⟩, _⟩ := Lv.atR (AO.list?_of e4 ▸ e3) ha
      obtain ⟨as, r⟩ := toPyL_ok ih g3 e5
      exact ⟨_, reads_list_at g1 (by rw [g2]) (by rw [g2]) r⟩
    | tup xs =>
      obtain ⟨a, vs, k, rfl, hm, hvs⟩ := hv.inv
      obtain ⟨ds, e5, rfl⟩ := map_of e
      obtain ⟨as, r⟩ := toPyL_ok ih hvs e5
      exact ⟨_, reads_tuple_at (Lv.tup hm) rfl rfl r⟩
    | _ => exact toPy0_ok hv e
theorem cmpEq_ok {ac : Act} {σ : AS} {x y : AV} {b : Bool} {v u : Value} (hb : cmpEq σ.vh x y = some b) (h1 : VR W v x) (h2 : VR W u y) (Lv : Lives prog w ac W σ s.heap) (hu : A.units + 64 < cLine) {Q : Value → Shared → Prop} :
    (Q (.bool b) s → wpAny (model prog w) A (compareOp .Eq v u) Q E s) ∧ (Q (.bool (!b)) s → wpAny (model prog w) A (compareOp .NotEq v u) Q E s) := by
  obtain ⟨d, q1, hb⟩ := bind_of hb
  obtain ⟨e, q2, hb⟩ := bind_of hb
  obtain ⟨q, rfl⟩ := ite_of hb
  rw [Bool.and_eq_true] at q
  obtain ⟨as, r1⟩ := toPy_ok Lv 4 h1 q1
  obtain ⟨bs, r2⟩ := toPy_ok Lv 4 h2 q2
  exact ⟨fun h => eq_dataH r1 r2 q.1 q.2 hu h, fun h => ne_dataH r1 r2 q.1 q.2 hu h⟩
theorem cmpop_ok {ac : Act} {σ : AS} {op : CmpOp} {x y : AV} {b : Bool} {v u : Value} (hb : cmpop σ.vh op x y = some b) (h1 : VR W v x) (h2 : VR W u y) (Lv : Lives prog w ac W σ s.heap) (hu : A.units + 64 < cLine) {Q : Value → Shared → Prop}
    (h : ∀ tk, Q (.bool b) { s with toks := tk }) : wpAny (model prog w) A (compareOp op v u) Q E s := by
  cases op with
  | Lt => obtain ⟨a, t, c, t', rfl, rfl, e⟩ := two_int hb h1 h2; exact PyProof.Rows.lt_int (Option.some.inj e ▸ h _)
  | LtE => obtain ⟨a, t, c, t', rfl, rfl, e⟩ := two_int hb h1 h2; exact PyProof.Rows.le_int (Option.some.inj e ▸ h _)
  | Gt => obtain ⟨a, t, c, t', rfl, rfl, e⟩ := two_int hb h1 h2; exact PyProof.Rows.gt_int (Option.some.inj e ▸ h _)
  | GtE => obtain ⟨a, t, c, t', rfl, rfl, e⟩ := two_int hb h1 h2; exact PyProof.Rows.ge_int (Option.some.inj e ▸ h _)
  | Eq =>
    rcases or_of hb with hb | hb
    · obtain ⟨a, t, c, t', rfl, rfl, e⟩ := two_int hb h1 h2; exact PyProof.Rows.eq_int (Option.some.inj e ▸ h _)
    rcases or_of hb with hb | hb
    · obtain ⟨a, t, c, t', rfl, rfl, e⟩ := two_str hb h1 h2; exact PyProof.Rows.eq_str (Option.some.inj e ▸ h _)
    rcases or_of hb with hb | hb
    · obtain ⟨a, c, rfl, rfl, e⟩ := two_bool hb h1 h2; exact PyProof.Rows.eq_bool (Option.some.inj e ▸ h _)
    · exact (cmpEq_ok hb h1 h2 Lv hu).1 (h s.toks)
  | NotEq =>
    rcases or_of hb with hb | hb
    · obtain ⟨a, t, c, t', rfl, rfl, e⟩ := two_int hb h1 h2; exact PyProof.Rows.ne_int (Option.some.inj e ▸ h _)
    rcases or_of hb with hb | hb
    · obtain ⟨a, t, c, t', rfl, rfl, e⟩ := two_str hb h1 h2; exact PyProof.Rows.ne_str (Option.some.inj e ▸ h _)
    rcases or_of hb with hb | hb
    · obtain ⟨a, c, rfl, rfl, e⟩ := two_bool hb h1 h2; exact PyProof.Rows.ne_bool (Option.some.inj e ▸ h _)
    · obtain ⟨c, hq, e⟩ := map_of hb
      exact (cmpEq_ok hq h1 h2 Lv hu).2 (e ▸ h s.toks)
  | In =>
    rcases or_of hb with hb | hb
    · obtain ⟨a, t, c, t', rfl, rfl, e⟩ := two_str hb h1 h2; cases e; exact PyProof.Rows.in_str (h _)
    · obtain ⟨k, g1, hb⟩ := bind_of hb
      obtain ⟨kvs, g2, e⟩ := map_of hb
      obtain ⟨n, g3, g4⟩ := bind_of g2
      obtain ⟨o, g5, g6⟩ := bind_of g4
      obtain ⟨t, rfl⟩ := h1.of_int g1
      rw [AV.ref?_of g3] at h2
      obtain ⟨a, rfl, ha⟩ := h2.inv
      obtain ⟨ob, e1, ⟨ps, e5, e6⟩, e3, e4⟩ := Lv.atR (AO.idict?_of g6 ▸ g5) ha
      have hm := (Heap.dictOf_iff.mpr ⟨ob, e1, e5⟩).mapOf
      refine wpAny_in_of (knd := intKind prog w) (k := k) (f := valueAt ps) (by simp [intKind, Value.isInt]) ?_ hm ?_
      · have := Lv.low ha
        rw [beq_eq_false_iff_ne]
        intro z
        rw [z] at this
        exact absurd this (by decide)
      · rw [(e6.find k).isSome, e]; exact h _
  | NotIn => obtain ⟨a, t, c, t', rfl, rfl, e⟩ := two_str hb h1 h2; cases e; exact PyProof.Rows.notIn_str (h _)
  | Is =>
    obtain ⟨_, g, hb⟩ := bind_of hb
    rw [AV.none?_of g] at h2
    obtain rfl := h2.inv
    exact PySem.is_none (by rw [isNone_ok hb h1]; exact h s.toks)
  | IsNot =>
    obtain ⟨_, g, hb⟩ := bind_of hb
    obtain ⟨c, hq, e⟩ := map_of hb
    rw [AV.none?_of g] at h2
    obtain rfl := h2.inv
    exact PySem.isNot_none (by rw [isNone_ok hq h1, e]; exact h s.toks)
end

section
variable (prog : Program) (w : World) (K : Frag)
abbrev TrE (b : Nat) (c : Cx) (e : Expr) (σ : AS) (x : AV) (σ' : AS) : Prop := Tr prog w K VR b c (eval e) σ x σ'
abbrev TrT (b : Nat) (c : Cx) (e : Expr) (σ : AS) (x : Bool) (σ' : AS) : Prop := Tr prog w K (fun _ (v : Bool) y => v = y) b c (fun env => isTrue e env (eval e env)) σ x σ'
abbrev TrL (b : Nat) (c : Cx) (pos : Pos) (es : List Expr) (σ : AS) (xs : List AV) (σ' : AS) : Prop := Tr prog w K VRs b c (fun env => spliced (backTo pos (starEach es env))) σ xs σ'
abbrev TrBo (b : Nat) (c : Cx) (pos : Pos) (op : BoolOp) (es : List Expr) (σ : AS) (x : AV) (σ' : AS) : Prop := Tr prog w K VR b c (fun env => boolOp pos op (evalEach es env)) σ x σ'
abbrev TrAll (b : Nat) (c : Cx) (op : BoolOp) (es : List Expr) (σ : AS) (x : Bool) (σ' : AS) : Prop := Tr prog w K (fun _ (v : Bool) y => v = y) b c (fun env => allTrue op es env) σ x σ'
end

section
variable {prog : Program} {w : World} {K : Frag} {b : Nat} {c : Cx} {σ σ1 σ2 σ3 : AS} {x y z : AV} {pos : Pos}

theorem E_int {i : Int} {k : Nat} : TrE prog w K b c (.Constant (.int i) k pos) σ (.int i) σ := by
  intro ac env W s Q E O ER Lv hq
  exact wpAny_Constant_int (hq _ W s.heap _ W.le_refl Lv (.int _ _))
theorem E_str {i : Str} {k : Nat} : TrE prog w K b c (.Constant (.str i) k pos) σ (.str i) σ := by
  intro ac env W s Q E O ER Lv hq
  exact PySem.Calls.Constant_str (hq _ W s.heap _ W.le_refl Lv (.str _ _))
theorem E_bool {i : Bool} {k : Nat} : TrE prog w K b c (.Constant (.bool i) k pos) σ (.bool i) σ := by
  intro ac env W s Q E O ER Lv hq
  exact wpAny_Constant_bool (hq _ W s.heap s.toks W.le_refl Lv (.bool _))
theorem E_none {k : Nat} : TrE prog w K b c (.Constant .none k pos) σ .none σ := by
  intro ac env W s Q E O ER Lv hq
  exact wpAny_Constant_none (hq _ W s.heap s.toks W.le_refl Lv .none)

noncomputable def dbg : Str := "__debug__"
noncomputable def cdict : Str := "__classdict__"
noncomputable def Cx.kindOf (c : Cx) (x : Str) : Option NameKind := c.scope.names.lookup x
theorem EnvR.kindOf {W : Wd} {c : Cx} {ac : Act} {env : Env} (e : EnvR W c ac env) (x : Str) : env.kindOf x = c.kindOf x := by
  unfold Env.kindOf Cx.kindOf; rw [e.scope]
theorem EnvR.kind' {W : Wd} {c : Cx} {ac : Act} {env : Env} (e : EnvR W c ac env) : env.scope.kind = .function := by rw [e.scope]; exact e.kind

theorem E_local {n : Str} (hk : c.kindOf n = some .local) (hl : c.loc = none) (hv : σ.fm.lookup n = some (some x)) (hd : (n == dbg) = false) : TrE prog w K b c (.Name n pos) σ x σ := by
  intro ac env W s Q E O ER Lv hq
  obtain ⟨m, F, FR⟩ := Lv.frame
  obtain ⟨v, h1, h2⟩ := FR n x hv
  have hloc := ER.loc
  rw [hl] at hloc
  exact wpAny_Name (wpAny_loadName_local ER.kind' (by rw [ER.kindOf]; exact hk) (hloc ▸ F.ns) h1 (hq _ W s.heap s.toks W.le_refl Lv h2)) hd
theorem E_localC {n : Str} {fm : List (Str × Option AV)} (hk : c.kindOf n = some .local) (hl : c.loc = some fm) (hv : fm.lookup n = some (some x)) (hd : (n == dbg) = false) : TrE prog w K b c (.Name n pos) σ x σ := by
  intro ac env W s Q E O ER Lv hq
  have hloc := ER.loc
  rw [hl] at hloc
  obtain ⟨ob, es, ep, m', e1, q1, q2, q3, q4⟩ := hloc
  obtain ⟨v, h1, h2⟩ := q4 n x hv
  exact wpAny_Name (wpAny_loadName_local ER.kind' (by rw [ER.kindOf]; exact hk) ⟨ob, es, ep, Lv.tup e1, q1, q2, q3⟩ h1 (hq _ W s.heap s.toks W.le_refl Lv h2)) hd
theorem E_cell {n : Str} {k : Nat} (hk : c.kindOf n = some .cell) (hc : c.cells.lookup n = some k) (ho : σ.vh[k]? = some (.cell (some x))) (hd : (n == dbg) = false) : TrE prog w K b c (.Name n pos) σ x σ := by
  intro ac env W s Q E O ER Lv hq
  obtain ⟨a, h1, h2⟩ := ER.cells n k hc
  obtain ⟨ob, e1, e2, e3, e4⟩ := Lv.atR ho h1
  obtain ⟨v', q1, q2⟩ := e2
  cases q2 with
  | some q2 => exact wpAny_Name (wpAny_loadName_cell ER.kind' (by rw [ER.kindOf]; exact hk) h2 ⟨ob, e1, q1⟩ (hq _ W s.heap s.toks W.le_refl Lv q2)) hd
theorem E_free {n : Str} {k : Nat} (hk : c.kindOf n = some .free) (hc : c.cells.lookup n = some k) (ho : σ.vh[k]? = some (.cell (some x))) (hd : (n == dbg) = false) (hcd : (n == cdict) = false) : TrE prog w K b c (.Name n pos) σ x σ := by
  intro ac env W s Q E O ER Lv hq
  obtain ⟨a, h1, h2⟩ := ER.cells n k hc
  obtain ⟨ob, e1, e2, e3, e4⟩ := Lv.atR ho h1
  obtain ⟨v', q1, q2⟩ := e2
  cases q2 with
  | some q2 => exact wpAny_Name (wpAny_loadName_free ER.kind' (by rw [ER.kindOf]; exact hk) h2 ⟨ob, e1, q1⟩ (hq _ W s.heap s.toks W.le_refl Lv q2) hcd) hd

/-- what a global name stands for -/
noncomputable def GlobIs (K : Frag) (n : Str) (x : AV) : Prop := (∃ v, nsIn K mainGlobals n = some (some v) ∧ ∀ W, VR W v x) ∨ (∃ v, nsIn K mainGlobals n = some none ∧ bootBuiltins n = some v ∧ n ≠ "__name__" ∧ ∀ W, VR W v x)
theorem E_glob {n : Str} (hk : c.kindOf n = some .globalImplicit) (hg : GlobIs K n x) (hd : (n == dbg) = false) : TrE prog w K b c (.Name n pos) σ x σ := by
  intro ac env W s Q E O ER Lv hq
  obtain ⟨p, loose, mean, mg, mb, T⟩ := O.top
  obtain ⟨m, F, FR⟩ := Lv.frame
  rcases hg with ⟨v, h1, h2⟩ | ⟨v, h1, h2, h3, h4⟩
  · exact Name_function_global ER.kind' (by rw [ER.kindOf]; exact hk) (loadGlobal_global (by rw [ER.globals]; exact T.g.keeps F.keep) (mg_of O.kin T.g h1) (hq _ W s.heap s.toks W.le_refl Lv (h2 W))) hd
  · exact Name_function_global ER.kind' (by rw [ER.kindOf]; exact hk) (loadGlobal_builtin (by rw [ER.globals]; exact T.g.keeps F.keep) (mg_none_of O.kin T.g h1) (by rw [ER.builtins]; exact T.b.keeps F.keep) ((T.builtins n h3).trans h2) (hq _ W s.heap s.toks W.le_refl Lv (h4 W))) hd

theorem E_BinOp {op : Operator} {l r : Expr} (h1 : TrE prog w K b c l σ x σ1) (h2 : TrE prog w K b c r σ1 y σ2) (hb : binop op x y = some z) : TrE prog w K b c (.BinOp l op r pos) σ z σ2 := by
  intro ac env W s Q E O ER Lv hq
  refine wpAny_BinOp (h1 ac env W s _ E O ER Lv fun v1 W1 h1' tk1 le1 Lv1 r1 => ?_)
  refine h2 ac env W1 _ _ E O (ER.mono le1) Lv1 fun v2 W2 h2' tk2 le2 Lv2 r2 => ?_
  exact binop_ok hb (r1.mono le2) r2 fun r tk rr => hq r W2 h2' tk (le1.trans le2) Lv2 rr

theorem Ok.room {ac : Act} (O : Ok K b ac) : ac.A.units + 64 < cLine := by have := O.units; omega
theorem E_Compare {op : CmpOp} {l r : Expr} {v : Bool} (h1 : TrE prog w K b c l σ x σ1) (h2 : TrE prog w K b c r σ1 y σ2) (hb : cmpop σ2.vh op x y = some v) (hm : behindInMarks op r = false) : TrE prog w K b c (.Compare l [op] [r] pos) σ (.bool v) σ2 := by
  intro ac env W s Q E O ER Lv hq
  refine wpAny_Compare1 (h1 ac env W s _ E O ER Lv fun v1 W1 h1' tk1 le1 Lv1 r1 => ?_) hm
  refine h2 ac env W1 _ _ E O (ER.mono le1) Lv1 fun v2 W2 h2' tk2 le2 Lv2 r2 => ?_
  exact cmpop_ok hb (r1.mono le2) r2 Lv2 O.room fun tk => hq _ W2 h2' tk (le1.trans le2) Lv2 (.bool _)
theorem T_Compare {op : CmpOp} {l r : Expr} {v : Bool} (h1 : TrE prog w K b c l σ x σ1) (h2 : TrE prog w K b c r σ1 y σ2) (hb : cmpop σ2.vh op x y = some v) (hm : behindInMarks op r = false) : TrT prog w K b c (.Compare l [op] [r] pos) σ v σ2 := by
  intro ac env W s Q E O ER Lv hq
  refine wpAny_isTrue_Compare1 (h1 ac env W s _ E O ER Lv fun v1 W1 h1' tk1 le1 Lv1 r1 => ?_) hm
  refine h2 ac env W1 _ _ E O (ER.mono le1) Lv1 fun v2 W2 h2' tk2 le2 Lv2 r2 => ?_
  exact cmpop_ok hb (r1.mono le2) r2 Lv2 O.room fun tk => wpAny_truthy_bool (hq _ W2 h2' tk (le1.trans le2) Lv2 rfl)

/-- a chain of two: a op1 b op2 c -/
theorem T_Chain2 {op1 op2 : CmpOp} {l m r : Expr} {v1 v : Bool} (h1 : TrE prog w K b c l σ x σ1) (h2 : TrE prog w K b c m σ1 y σ2) (hb1 : cmpop σ2.vh op1 x y = some v1)
    (h3 : if v1 = true then ∃ z, TrE prog w K b c r σ2 z σ3 ∧ cmpop σ3.vh op2 y z = some v else v = false ∧ σ3 = σ2) (hm : lastMarks [op1, op2] [m, r] = false) : TrT prog w K b c (.Compare l [op1, op2] [m, r] pos) σ v σ3 := by
  intro ac env W s Q E O ER Lv hq
  refine isTrue_chain (h1 ac env W s _ E O ER Lv fun v1' W1 h1' tk1 le1 Lv1 r1 => ?_) hm
  refine test_link (h2 ac env W1 _ _ E O (ER.mono le1) Lv1 fun v2 W2 h2' tk2 le2 Lv2 r2 => ?_)
  refine cmpop_ok hb1 (r1.mono le2) r2 Lv2 O.room fun tk => wpAny_truthy_bool ?_
  cases v1 with
  | false =>
    rw [if_neg (by simp)] at h3 ⊢
    obtain ⟨rfl, rfl⟩ := h3
    exact hq _ W2 h2' tk (le1.trans le2) Lv2 rfl
  | true =>
    rw [if_pos rfl] at h3 ⊢
    obtain ⟨z, h3, hb2⟩ := h3
    refine test_last (h3 ac env W2 _ _ E O (ER.mono (le1.trans le2)) Lv2 fun v3 W3 h3' tk3 le3 Lv3 r3 => ?_)
    exact cmpop_ok hb2 (r2.mono le3) r3 Lv3 O.room fun tk => wpAny_truthy_bool (hq _ W3 h3' tk ((le1.trans le2).trans le3) Lv3 rfl)
theorem truthy_ok {W : Wd} {A : Around} {E : Value → Shared → Prop} {s : Shared} {x : AV} {v : Value} {t : Bool} (ht : truthyAV x = some t) (h : VR W v x) {Q : Bool → Shared → Prop} (q : Q t s) : wpAny (model prog w) A (truthy v) Q E s := by
  rw [h.of_bool ht]
  exact wpAny_truthy_bool q

/-- any other expression as a test -/
noncomputable def plainTest (e : Expr) : Bool := !(e.ctorIdx.beq 0 || e.ctorIdx.beq 3 || e.ctorIdx.beq 5 || e.ctorIdx.beq 15)
theorem isTrue_other {env : Env} {whole : Sem Value} {e : Expr} (h : plainTest e = true) : isTrue e env whole = (do let v ← whole; standAt e.pos; holding [v] (truthy v)) := by
  cases e <;> first | rfl | cases h
theorem T_plain {e : Expr} {t : Bool} (h : TrE prog w K b c e σ x σ1) (ht : truthyAV x = some t) (hp : plainTest e = true) : TrT prog w K b c e σ t σ1 := by
  intro ac env W s Q E O ER Lv hq
  refine wpAny_isTrue_value (h ac env W s _ E O ER Lv fun v1 W1 h1' tk1 le1 Lv1 r1 => ?_) (isTrue_other hp)
  exact truthy_ok ht r1 (hq _ W1 h1' tk1 le1 Lv1 rfl)
theorem T_Not {e : Expr} {t : Bool} (h : TrT prog w K b c e σ t σ1) : TrT prog w K b c (.UnaryOp .Not e pos) σ (!t) σ1 := by
  intro ac env W s Q E O ER Lv hq
  refine isTrue_not (h ac env W s _ E O ER Lv fun v1 W1 h1' tk1 le1 Lv1 r1 => ?_)
  subst r1
  exact hq _ W1 h1' tk1 le1 Lv1 rfl
theorem E_IfExp {t body orelse : Expr} {v : Bool} (h : TrT prog w K b c t σ v σ1) (h2 : if v = true then TrE prog w K b c body σ1 x σ2 else TrE prog w K b c orelse σ1 x σ2) : TrE prog w K b c (.IfExp t body orelse pos) σ x σ2 := by
  intro ac env W s Q E O ER Lv hq
  refine wpAny_IfExp (h ac env W s _ E O ER Lv fun v1 W1 h1' tk1 le1 Lv1 r1 => ?_)
  subst r1
  cases v1 with
  | true => exact (h2 : Tr _ _ _ _ _ _ _ _ _ _) ac env W1 _ _ E O (ER.mono le1) Lv1 fun v2 W2 h2' tk2 le2 Lv2 r2 => hq _ W2 h2' tk2 (le1.trans le2) Lv2 r2
  | false => exact (h2 : Tr _ _ _ _ _ _ _ _ _ _) ac env W1 _ _ E O (ER.mono le1) Lv1 fun v2 W2 h2' tk2 le2 Lv2 r2 => hq _ W2 h2' tk2 (le1.trans le2) Lv2 r2

theorem All_nil {op : BoolOp} : TrAll prog w K b c op [] σ (op == .And) σ := by
  intro ac env W s Q E O ER Lv hq
  show wpAny _ _ (pure (op == .And)) Q E s
  exact wpAny_pure (hq _ W s.heap s.toks W.le_refl Lv rfl)
noncomputable def stops : BoolOp → Bool → Bool
  | .And, v => !v
  | .Or, v => v
theorem All_cons {op : BoolOp} {e : Expr} {rest : List Expr} {v v' : Bool} (h : TrT prog w K b c e σ v σ1) (h2 : if stops op v = true then v' = v ∧ σ2 = σ1 else TrAll prog w K b c op rest σ1 v' σ2) : TrAll prog w K b c op (e :: rest) σ v' σ2 := by
  intro ac env W s Q E O ER Lv hq
  show wpAny _ _ (do
    match op, ← isTrue e env (eval e env) with
    | .And, false => pure false
    | .Or, true => pure true
    | _, _ => allTrue op rest env) Q E s
  refine wpAny_bind (h ac env W s _ E O ER Lv fun v1 W1 h1' tk1 le1 Lv1 r1 => ?_)
  subst r1
  have fin : (stops op v1 = true) → v' = v1 → σ2 = σ1 → Q v1 { s with heap := h1', toks := tk1 } := by
    rintro _ rfl rfl
    exact hq _ W1 h1' tk1 le1 Lv1 rfl
  have go : TrAll prog w K b c op rest σ1 v' σ2 → wpAny (model prog w) ac.A (allTrue op rest env) Q E { s with heap := h1', toks := tk1 } := fun g =>
    g ac env W1 _ _ E O (ER.mono le1) Lv1 fun v2 W2 h2' tk2 le2 Lv2 r2 => hq _ W2 h2' tk2 (le1.trans le2) Lv2 r2
  cases op <;> cases v1 <;> simp only [stops, Bool.not_false, Bool.not_true, if_true, Bool.false_eq_true, if_false] at h2
  · exact wpAny_pure (fin rfl h2.1 h2.2)
  · exact go h2
  · exact go h2
  · exact wpAny_pure (fin rfl h2.1 h2.2)
theorem T_BoolOp {op : BoolOp} {es : List Expr} {v : Bool} (h : TrAll prog w K b c op es σ v σ1) : TrT prog w K b c (.BoolOp op es pos) σ v σ1 := by
  intro ac env W s Q E O ER Lv hq
  exact wpAny_isTrue_BoolOp (h ac env W s _ E O ER Lv hq)
theorem Bo_one {op : BoolOp} {e : Expr} (h : TrE prog w K b c e σ x σ1) : TrBo prog w K b c pos op [e] σ x σ1 := by
  intro ac env W s Q E O ER Lv hq
  exact h ac env W s _ E O ER Lv hq
theorem Bo_cons {op : BoolOp} {e e' : Expr} {rest : List Expr} {v : Bool} (h : TrE prog w K b c e σ x σ1) (ht : truthyAV x = some v) (h2 : if stops op v = true then y = x ∧ σ2 = σ1 else TrBo prog w K b c pos op (e' :: rest) σ1 y σ2) : TrBo prog w K b c pos op (e :: e' :: rest) σ y σ2 := by
  intro ac env W s Q E O ER Lv hq
  show wpAny _ _ (do
    let v ← eval e env
    standAt pos
    let t ← holding [v] (truthy v)
    match op, t with
    | .And, false | .Or, true => pure v
    | _, _ => boolOp pos op (evalEach (e' :: rest) env)) Q E s
  refine wpAny_bind (h ac env W s _ E O ER Lv fun v1 W1 h1' tk1 le1 Lv1 r1 => wpAny_bind (wpAny_standAt (wpAny_bind (wpAny_holding (truthy_ok ht r1 ?_)))))
  have fin : y = x → σ2 = σ1 → Q v1 { s with heap := h1', toks := tk1 } := by
    rintro rfl rfl
    exact hq _ W1 h1' tk1 le1 Lv1 r1
  have go : TrBo prog w K b c pos op (e' :: rest) σ1 y σ2 → wpAny (model prog w) ac.A (boolOp pos op (evalEach (e' :: rest) env)) Q E { s with heap := h1', toks := tk1 } := fun g =>
    g ac env W1 _ _ E O (ER.mono le1) Lv1 fun v2 W2 h2' tk2 le2 Lv2 r2 => hq _ W2 h2' tk2 (le1.trans le2) Lv2 r2
  cases op <;> cases v <;> simp only [stops, Bool.not_false, Bool.not_true, if_true, Bool.false_eq_true, if_false] at h2
  · exact wpAny_pure (fin h2.1 h2.2)
  · exact go h2
  · exact go h2
  · exact wpAny_pure (fin h2.1 h2.2)
theorem E_BoolOp {op : BoolOp} {es : List Expr} (h : TrBo prog w K b c pos op es σ x σ1) : TrE prog w K b c (.BoolOp op es pos) σ x σ1 := by
  intro ac env W s Q E O ER Lv hq
  exact h ac env W s _ E O ER Lv hq

noncomputable def unop (op : UnaryOp) (x : AV) : Option AV := UnaryOp.casesOn op none (x.bool?.map fun v => .bool (!v)) none (x.int?.map fun a => .int (-a))
theorem E_UnaryOp {op : UnaryOp} {e : Expr} (h : TrE prog w K b c e σ x σ1) (hu : unop op x = some y) : TrE prog w K b c (.UnaryOp op e pos) σ y σ1 := by
  intro ac env W s Q E O ER Lv hq
  refine wpAny_UnaryOp (h ac env W s _ E O ER Lv fun v1 W1 h1' tk1 le1 Lv1 r1 => ?_)
  cases op with
  | USub =>
    obtain ⟨a, g, e⟩ := map_of hu
    obtain ⟨t, q⟩ := r1.of_int g
    rw [q]
    exact PyProof.Rows.neg_int (hq _ W1 h1' _ le1 Lv1 (e ▸ .int _ _))
  | Not =>
    obtain ⟨a, g, e⟩ := map_of hu
    rw [r1.of_bool g]
    exact not_of (wpAny_truthy_bool (hq _ W1 h1' _ le1 Lv1 (e ▸ .bool _)))
  | _ => cases hu

noncomputable def notStarred (e : Expr) : Bool := !(e.ctorIdx.beq 22)
theorem starEach_cons {e : Expr} {r : List Expr} {env : Env} (hs : notStarred e = true) : starEach (e :: r) env = (false, eval e env) :: starEach r env := by cases e <;> first | rfl | cases hs
theorem L_nil : TrL prog w K b c pos [] σ [] σ := by
  intro ac env W s Q E O ER Lv hq
  exact wpAny_pure (hq _ W s.heap s.toks W.le_refl Lv .nil)
theorem L_cons {e : Expr} {es : List Expr} {xs : List AV} (h : TrE prog w K b c e σ x σ1) (h2 : TrL prog w K b c pos es σ1 xs σ2) (hs : notStarred e = true) : TrL prog w K b c pos (e :: es) σ (x :: xs) σ2 := by
  intro ac env W s Q E O ER Lv hq
  show wpAny _ _ (spliced (backTo pos (starEach (e :: es) env))) Q E s
  rw [starEach_cons hs]
  show wpAny _ _ (spliced ((false, eval e env) :: backTo pos (starEach es env))) Q E s
  refine PySem.Calls.spliced_cons (h ac env W s _ E O ER Lv fun v1 W1 h1' tk1 le1 Lv1 r1 => ?_)
  exact h2 ac env W1 _ _ E O (ER.mono le1) Lv1 fun v2 W2 h2' tk2 le2 Lv2 r2 => hq _ W2 h2' tk2 (le1.trans le2) Lv2 (.cons (r1.mono le2) r2)
theorem E_Tuple {es : List Expr} {k : Nat} {xs : List AV} (h : TrL prog w K b c pos es σ xs σ1) (hl : xs.length ≤ 1000) : TrE prog w K b c (.Tuple es k pos) σ (.tup xs) σ1 := by
  intro ac env W s Q E O ER Lv hq
  refine wpAny_Tuple (h ac env W s _ E O ER Lv fun v1 W1 h1' tk1 le1 Lv1 r1 => ⟨by rw [r1.length, sizeLine_eq]; omega, ?_⟩)
  refine hq _ (W1.addT (h1'.objs.size, tupObj v1 0)) _ tk1 (le1.trans (W1.le_addT _)) (Lv1.addT (fun _ _ e => Heap.get?_push_of_some _ e) (get_size_none _) (Heap.get?_push_size _ rfl)) (.tup (e := 0) (.head _) (r1.mono (W1.le_addT _)))
theorem E_List {es : List Expr} {xs : List AV} (h : TrL prog w K b c pos es σ xs σ1) (hl : xs.length ≤ 1000) : TrE prog w K b c (.List es pos) σ (.ref σ1.vh.length) ⟨σ1.fm, σ1.vh ++ [.list xs]⟩ := by
  intro ac env W s Q E O ER Lv hq
  refine wpAny_List (h ac env W s _ E O ER Lv fun v1 W1 h1' tk1 le1 Lv1 r1 => ⟨by rw [r1.length, sizeLine_eq]; omega, ?_⟩)
  refine hq _ (W1.add h1'.objs.size) _ tk1 (le1.trans (W1.le_add _)) (Lv1.add (fun _ _ e => Heap.get?_push_of_some _ e) (get_size_none _) (Heap.get?_push_size _ rfl) ⟨v1, 0, rfl, r1.mono (W1.le_add _)⟩ (Lv1.size_low O)) (.ref ?_)
  rw [← Lv1.len]; exact W1.add_get _
end

noncomputable def setFm : List (Str × Option AV) → Str → AV → List (Str × Option AV)
  | [], x, y => [(x, some y)]
  | (k, v) :: r, x, y => if x = k then (k, some y) :: r else (k, v) :: setFm r x y
theorem lookup_hd {α : Type} (k z : Str) (v : α) (r : List (Str × α)) : ((k, v) :: r).lookup z = if z = k then some v else r.lookup z := by
  rw [List.lookup_cons]
  by_cases h : z = k
  · rw [if_pos h, h, beq_self_eq_true]
  · rw [if_neg h, beq_false_of_ne h]
theorem lookup_setFm (x : Str) (y : AV) (z : Str) : ∀ fm, (setFm fm x y).lookup z = if z = x then some (some y) else fm.lookup z
  | [] => by rw [setFm, lookup_hd, List.lookup_nil]
  | (k, v) :: r => by
    rw [setFm]
    by_cases h : x = k
    · subst h
      rw [if_pos rfl, lookup_hd, lookup_hd]
      by_cases q : z = x
      · rw [if_pos q, if_pos q]
      · rw [if_neg q, if_neg q, if_neg q]
    · rw [if_neg h, lookup_hd, lookup_hd, lookup_setFm x y z r]
      by_cases q : z = k
      · subst q
        rw [if_pos rfl, if_neg (Ne.symm h), if_pos rfl]
      · rw [if_neg q, if_neg q]
theorem FrR.set {W : Wd} {m : Str → Option Value} {fm : List (Str × Option AV)} (h : FrR W m fm) {x : Str} {y : AV} {v : Value} (hv : VR W v y) : FrR W (fun z => if z = x then some v else m z) (setFm fm x y) := fun z y' e => by
  rw [lookup_setFm] at e
  by_cases q : z = x
  · rw [if_pos q] at e
    cases e
    exact ⟨v, if_pos q, hv⟩
  · rw [if_neg q] at e
    obtain ⟨v', h1, h2⟩ := h z y' e
    exact ⟨v', (if_neg q).trans h1, h2⟩

/-- flows -/
inductive AFl where
  | next
  | brk
  | cont
  | ret (x : AV)
inductive FlR (W : Wd) : Flow → AFl → Prop
  | next : FlR W .next .next
  | brk : FlR W .brk .brk
  | cont : FlR W .cont .cont
  | ret {v : Value} {x : AV} : VR W v x → FlR W (.ret v) (.ret x)

section
variable (prog : Program) (w : World) (K : Frag)
abbrev TrS (b : Nat) (c : Cx) (st : Stmt) (σ : AS) (f : AFl) (σ' : AS) : Prop := Tr prog w K FlR b c (exec st) σ f σ'
abbrev TrB (b : Nat) (c : Cx) (sts : List Stmt) (σ : AS) (f : AFl) (σ' : AS) : Prop := Tr prog w K FlR b c (execs sts) σ f σ'
/-- a store of y into a target -/
noncomputable def TrSt (b : Nat) (c : Cx) (t : Env → Value → Sem Unit) (σ : AS) (y : AV) (σ' : AS) : Prop :=
  ∀ (ac : Act) (env : Env) (W : Wd) (s : Shared) (Q : Unit → Shared → Prop) (E : Value → Shared → Prop) (v : Value), Ok K b ac → EnvR W c ac env → Lives prog w ac W σ s.heap → VR W v y →
    (∀ W' h' tk', W.le W' → Lives prog w ac W' σ' h' → Q () { s with heap := h', toks := tk' }) → wpAny (model prog w) ac.A (t env v) Q E s
abbrev TrA (b : Nat) (c : Cx) (target : Expr) (σ : AS) (y : AV) (σ' : AS) : Prop := TrSt prog w K b c (fun env v => assign target env v) σ y σ'
end

inductive StAll (prog : Program) (w : World) (K : Frag) (b : Nat) (c : Cx) : List (Env → Value → Sem Unit) → AS → List AV → AS → Prop
  | nil (σ : AS) : StAll prog w K b c [] σ [] σ
  | cons {t : Env → Value → Sem Unit} {ts : List (Env → Value → Sem Unit)} {σ σ1 σ2 : AS} {y : AV} {ys : List AV} : TrSt prog w K b c t σ y σ1 → StAll prog w K b c ts σ1 ys σ2 → StAll prog w K b c (t :: ts) σ (y :: ys) σ2

section
variable {prog : Program} {w : World} {K : Frag} {b : Nat} {c : Cx} {σ σ1 σ2 σ3 : AS} {x y z : AV} {pos : Pos}

theorem B_nil : TrB prog w K b c [] σ .next σ := by
  intro ac env W s Q E O ER Lv hq
  exact wpAny_execs_nil (hq _ W s.heap s.toks W.le_refl Lv .next)
noncomputable def AFl.isNext : AFl → Bool
  | .next => true
  | _ => false
theorem B_cons {st : Stmt} {rest : List Stmt} {f f' : AFl} (h : TrS prog w K b c st σ f σ1) (h2 : if f.isNext = true then TrB prog w K b c rest σ1 f' σ2 else f' = f ∧ σ2 = σ1) : TrB prog w K b c (st :: rest) σ f' σ2 := by
  intro ac env W s Q E O ER Lv hq
  refine wpAny_execs_cons (h ac env W s _ E O ER Lv fun v1 W1 h1' tk1 le1 Lv1 r1 => ?_)
  cases r1 with
  | next => exact (h2 : Tr _ _ _ _ _ _ _ _ _ _) ac env W1 _ _ E O (ER.mono le1) Lv1 fun v2 W2 h2' tk2 le2 Lv2 r2 => hq _ W2 h2' tk2 (le1.trans le2) Lv2 r2
  | brk => obtain ⟨rfl, rfl⟩ := h2; exact hq _ W1 h1' tk1 le1 Lv1 .brk
  | cont => obtain ⟨rfl, rfl⟩ := h2; exact hq _ W1 h1' tk1 le1 Lv1 .cont
  | ret r => obtain ⟨rfl, rfl⟩ := h2; exact hq _ W1 h1' tk1 le1 Lv1 (.ret r)
theorem S_Return {e : Expr} (h : TrE prog w K b c e σ x σ1) : TrS prog w K b c (.Return (some e) pos) σ (.ret x) σ1 := by
  intro ac env W s Q E O ER Lv hq
  exact wpAny_Return_some (h ac env W s _ E O ER Lv fun v1 W1 h1' tk1 le1 Lv1 r1 => hq _ W1 h1' tk1 le1 Lv1 (.ret r1))
theorem S_If {t : Expr} {body orelse : List Stmt} {v : Bool} {f : AFl} (h : TrT prog w K b c t σ v σ1) (h2 : if v = true then TrB prog w K b c body σ1 f σ2 else TrB prog w K b c orelse σ1 f σ2) : TrS prog w K b c (.If t body orelse pos) σ f σ2 := by
  intro ac env W s Q E O ER Lv hq
  refine wpAny_If (h ac env W s _ E O ER Lv fun v1 W1 h1' tk1 le1 Lv1 r1 => ?_)
  subst r1
  cases v1 <;> exact (h2 : Tr _ _ _ _ _ _ _ _ _ _) ac env W1 _ _ E O (ER.mono le1) Lv1 fun v2 W2 h2' tk2 le2 Lv2 r2 => hq _ W2 h2' tk2 (le1.trans le2) Lv2 r2

/-- not a comprehension: the stores of an assignment are not exchanged -/
noncomputable def isComp (e : Expr) : Bool := e.ctorIdx.beq 8 || e.ctorIdx.beq 9 || e.ctorIdx.beq 10
theorem swaps_none {value : Expr} {t : Option Expr} {l : Nat} {env : Env} (h : isComp value = false) : swapsWith value t l env = pure false := by
  cases value <;> first | rfl | cases h
theorem interactive_none {W : Wd} {ac : Act} {env : Env} (e : EnvR W c ac env) : interactive env = false := by
  unfold interactive; rw [e.scope, e.kind]; rfl
theorem S_Expr {e : Expr} (h : TrE prog w K b c e σ x σ1) (hc : isComp e = false) : TrS prog w K b c (.Expr e pos) σ .next σ1 := by
  intro ac env W s Q E O ER Lv hq
  exact wpAny_Expr_any (h ac env W s _ E O ER Lv fun v1 W1 h1' tk1 le1 Lv1 r1 => hq _ W1 h1' tk1 le1 Lv1 .next) (interactive_none ER) (swaps_none hc)

/-- what a store to a name does -/
noncomputable def storeN (c : Cx) (σ : AS) (n : Str) (y : AV) : Option AS :=
  match c.kindOf n with
  | some .local => match c.loc with
    | none => some ⟨setFm σ.fm n y, σ.vh⟩
    | some _ => none
  | some .cell => match c.cells.lookup n with
    | some k => match σ.vh[k]? with
      | some (.cell _) => some ⟨σ.fm, σ.vh.set k (.cell (some y))⟩
      | _ => none
    | none => none
  | _ => none
theorem store_ok {n : Str} (hs : storeN c σ n y = some σ1) : TrSt prog w K b c (fun env v => storeName env n v) σ y σ1 := by
  intro ac env W s Q E v O ER Lv hv hq
  unfold storeN at hs
  have hloc := ER.loc
  split at hs
  · rename_i hk
    have hside : (env.scope.kind == .class || (env.scope.kind == .module && env.locals != env.globals)) = false := by rw [ER.kind']; rfl
    split at hs
    · rename_i hl
      cases hs
      rw [hl] at hloc
      obtain ⟨m, F, FR⟩ := Lv.frame
      refine wpAny_storeName_local (by rw [ER.kindOf]; exact hk) (by rw [hloc]; exact F.ns) (fun h' hn hb => hq W h' _ W.le_refl (Lv.setFrame ?_ ?_ (FR.set hv))) hside
      · rw [hloc] at hn; exact hn
      · rw [hloc] at hb; exact hb
    · cases hs
  · rename_i hk
    split at hs
    · rename_i k hc
      split at hs
      · rename_i ho
        cases hs
        obtain ⟨a, h1, h2⟩ := ER.cells n k hc
        obtain ⟨ob, e1, e2, e3, e4⟩ := Lv.atR ho h1
        obtain ⟨v', q1, q2⟩ := e2
        refine wpAny_storeName_cell ER.kind' (by rw [ER.kindOf]; exact hk) h2 ⟨ob, e1, q1⟩ fun h' hv' hb => hq W h' s.toks W.le_refl ?_
        obtain ⟨o', ho', hd'⟩ := hv'
        exact Lv.upd ho h1 (fun b o hb' e => (hb.2 b hb').trans e) ho' ⟨_, hd', .some hv⟩
      · cases hs
    · cases hs
  · cases hs
theorem A_Name {n : Str} (hs : storeN c σ n y = some σ1) : TrA prog w K b c (.Name n pos) σ y σ1 := by
  intro ac env W s Q E v O ER Lv hv hq
  exact wpAny_assign_Name (store_ok hs ac env W s Q E v O ER Lv hv hq)
theorem S_AssignName {n : Str} {p : Pos} {value : Expr} (h : TrE prog w K b c value σ y σ1) (hs : storeN c σ1 n y = some σ2) (hc : isComp value = false) : TrS prog w K b c (.Assign [.Name n p] value pos) σ .next σ2 := by
  intro ac env W s Q E O ER Lv hq
  refine wpAny_Assign_Name (h ac env W s _ E O ER Lv fun v1 W1 h1' tk1 le1 Lv1 r1 => ?_) (swaps_none hc)
  exact store_ok hs ac env W1 _ _ E v1 O (ER.mono le1) Lv1 r1 fun W2 h2' tk2 le2 Lv2 => hq _ W2 h2' tk2 (le1.trans le2) Lv2 .next

/-- the parts of a tuple, stored one after the other -/
theorem StAll.ok {ts : List (Env → Value → Sem Unit)} {ys : List AV} (h : StAll prog w K b c ts σ ys σ1) : ∀ (ac : Act) (env : Env) (W : Wd) (s : Shared) (Q : Unit → Shared → Prop) (E : Value → Shared → Prop) (vs : List Value), Ok K b ac → EnvR W c ac env → Lives prog w ac W σ s.heap → VRs W vs ys →
    (∀ W' h' tk', W.le W' → Lives prog w ac W' σ1 h' → Q () { s with heap := h', toks := tk' }) → wpAny (model prog w) ac.A (assignInOrder (ts.map fun t => t env) vs) Q E s := by
  induction h with
  | nil =>
    intro ac env W s Q E vs O ER Lv hv hq
    rw [hv.inv]
    exact wpAny_assignInOrder_none (hq W s.heap s.toks W.le_refl Lv)
  | cons h1 _ ih =>
    intro ac env W s Q E vs O ER Lv hv hq
    obtain ⟨v, us, e, hv1, hv2⟩ := hv.inv
    · rw [e]
      refine wpAny_assignInOrder_more (h1 ac env W s _ E _ O ER Lv hv1 fun W1 h1' tk1 le1 Lv1 => ?_)
      exact ih ac env W1 _ _ E _ O (ER.mono le1) Lv1 (hv2.mono le1) fun W2 h2' tk2 le2 Lv2 => hq W2 h2' tk2 (le1.trans le2) Lv2
noncomputable def plainTarget : Expr → Bool := notStarred
theorem assignEach_cons {e : Expr} {r : List Expr} {env : Env} (hs : notStarred e = true) : assignEach (e :: r) env = (false, assign e env) :: assignEach r env := by cases e <;> first | rfl | cases hs
theorem assignEach_plain {env : Env} : ∀ {es : List Expr}, es.all plainTarget = true → assignEach es env = es.map fun t => (false, assign t env)
  | [], _ => rfl
  | e :: r, h => by
    rw [List.all_cons, Bool.and_eq_true] at h
    rw [assignEach_cons h.1, assignEach_plain (env := env) h.2, List.map_cons]
theorem ext_grow {h h' : Heap} (e : Heap.ExtBut h.objs.size h h') : ∀ b o, h.get? b = some o → h'.get? b = some o := fun b o q => e b o (Nat.ne_of_lt (Heap.lt_size q)) q
theorem Lives.isTuple {ac : Act} {W : Wd} {h : Heap} (x : Lives prog w ac W σ h) {a : Addr} {vs : List Value} {e : Nat} (m : (a, tupObj vs e) ∈ W.tups) : h.IsTuple a vs.toArray := ⟨_, x.tup m, rfl, e, rfl⟩
theorem A_Tuple {es : List Expr} {k : Nat} {ys : List AV} (h : StAll prog w K b c (es.map fun t env v => assign t env v) σ ys σ1) (hp : es.all plainTarget = true) : TrA prog w K b c (.Tuple es k pos) σ (.tup ys) σ1 := by
  intro ac env W s Q E v O ER Lv hv hq
  obtain ⟨a, vs, e, hv, hm, hvs⟩ := hv.inv
  · rw [hv]
    have hlen : es.length = vs.length := by
      have h1 := hvs.length
      have : ∀ {ts : List (Env → Value → Sem Unit)} {ys : List AV} {σ σ1 : AS}, StAll prog w K b c ts σ ys σ1 → ts.length = ys.length := by
        intro ts ys σ σ1 h
        induction h with
        | nil => rfl
        | cons _ _ ih => simp [ih]
      have h2 := this h
      rw [List.length_map] at h2
      rw [h1, h2]
    have e1 := assignEach_plain (env := env) hp
    refine wpAny_assign_Tuple O.handled (Lv.isTuple hm) (by rw [e1, List.length_map, List.size_toArray]; exact hlen) ?_ fun h' hx => ?_
    · rw [e1]
      clear e1 hlen h hp
      induction es with
      | nil => rfl
      | cons t r ih => simp [List.findIdx?_cons]
    · rw [e1, List.map_map]
      have := h.ok ac env W { s with heap := h' } Q E vs O ER (Lv.grow (ext_grow hx)) hvs (fun W' h'' tk le L => hq W' h'' tk le L)
      rw [List.map_map] at this
      exact this

end

noncomputable def iterNames : List String := ["list_iterator", "tuple_iterator", "range_iterator", "str_ascii_iterator"]
noncomputable def Iterish (ob : Obj) : Prop := ∃ n fs, n ∈ iterNames ∧ ob.cls = .type n ∧ ob.data = .fields fs
theorem Iterish.not {ob : Obj} (h : Iterish ob) : NotVal ob := by
  left
  obtain ⟨n, fs, h1, h2, _⟩ := h
  rw [h2]
  simp only [iterNames, List.mem_cons, List.not_mem_nil, or_false] at h1
  rcases h1 with rfl | rfl | rfl | rfl <;> decide
theorem Iterish.notFreed {ob : Obj} (h : Iterish ob) : ob.isFreed = false := by
  obtain ⟨n, fs, h1, h2, h3⟩ := h
  obtain ⟨c, d, dt, sl⟩ := ob
  cases h3; rfl

structure Stable (PW : Wd → Prop) : Prop where
  le : ∀ W W', W.le W' → PW W → PW W'
  swap : ∀ W a n, Passing W a → PW W → PW (W.swap a n)

section
variable (prog : Program) (w : World)
/-- the iterator ob hands out xs, as long as P holds of the state -/
noncomputable def NextOk (PW : Wd → Prop) (P : AS → Prop) : List AV → Obj → Prop
  | [], ob => Iterish ob ∧ (∀ (ac : Act) (W : Wd) (σ : AS) (s : Shared) (it : Addr) (Q : Option Value → Shared → Prop) (E : Value → Shared → Prop), ac.A.handled = none → Lives prog w ac W σ s.heap → s.heap.get? it = some ob → PW W → P σ →
      (∀ h', Heap.ExtBut it s.heap h' → Q none { s with heap := h' }) → wpAny (model prog w) ac.A (pyNext (.ref it)) Q E s)
  | x :: r, ob => Iterish ob ∧ (∀ (ac : Act) (W : Wd) (σ : AS) (s : Shared) (it : Addr) (Q : Option Value → Shared → Prop) (E : Value → Shared → Prop), ac.A.handled = none → Lives prog w ac W σ s.heap → s.heap.get? it = some ob → PW W → P σ →
      (∀ v ob' h' tk', VR W v x → Heap.SameBut it s.heap h' → h'.get? it = some ob' → NextOk PW P r ob' → Q (some v) { s with heap := h', toks := tk' }) → wpAny (model prog w) ac.A (pyNext (.ref it)) Q E s)
theorem NextOk.iterish {prog : Program} {w : World} {PW : Wd → Prop} {P : AS → Prop} {xs : List AV} {ob : Obj} (h : NextOk prog w PW P xs ob) : Iterish ob := by
  cases xs <;> exact h.1
/-- iter() of it gives itself -/
noncomputable def AgainOk (ob : Obj) : Prop := ∀ (A : Around) (s : Shared) (it : Addr) (Q : Value → Shared → Prop) (E : Value → Shared → Prop), s.heap.get? it = some ob → Q (.ref it) s → wpAny (model prog w) A (pyIter (.ref it)) Q E s
noncomputable def IterOk (x : AV) (P : AS → Prop) (xs : List AV) : Prop := ∀ (ac : Act) (W : Wd) (σ : AS) (s : Shared) (v : Value) (Q : Value → Shared → Prop) (E : Value → Shared → Prop), Lives prog w ac W σ s.heap → VR W v x → P σ →
  (∀ ob PW, PW W → Stable PW → NextOk prog w PW P xs ob → AgainOk prog w ob → Q (.ref s.heap.objs.size) { s with heap := s.heap.push ob }) → wpAny (model prog w) ac.A (pyIter v) Q E s
end

section
variable {prog : Program} {w : World}
theorem letOwned_iter {M : Model} {A : Around} {E : Value → Shared → Prop} {s : Shared} {target : Expr} {it : Addr} {v : Value} {ob : Obj} {Q : Unit → Shared → Prop} (ho : s.heap.get? it = some ob) (hi : Iterish ob) (h : Q () s) :
    wpAny M A (letOwnedTupleGo target (.ref it) v) Q E s := by
  obtain ⟨n, fs, h1, h2, h3⟩ := hi
  have hn : (["enumerate", "zip", "dict_itemiterator", "dict_reverseitemiterator", "odict_iterator", "itertools.zip_longest", "itertools.pairwise"] : List String).contains n = false := by
    simp only [iterNames, List.mem_cons, List.not_mem_nil, or_false] at h1
    rcases h1 with rfl | rfl | rfl | rfl <;> decide
  have key : wpAny M A (letOwnedTupleGo (.Tuple [] 0 default) (.ref it) v) Q E s := by
    unfold letOwnedTupleGo
    cases v with
    | ref a =>
      refine wpAny_bind (wpAny_load ho ?_)
      rw [h2, h3]
      dsimp only
      rw [hn]
      exact wpAny_pure h
    | _ => exact wpAny_pure h
  cases target <;> first | exact wpAny_pure h | exact key

theorem next_list {l : Nat} {a : Addr} {all : List AV} : ∀ (xs : List AV) (i : Nat), xs = all.drop i → ∀ (ob : Obj), ob.cls = .type "list_iterator" → ob.data = .fields #[.ref a, .int i 0] →
    NextOk prog w (fun W => W.adr[l]? = some a) (fun σ => σ.vh[l]? = some (.list all)) xs ob
  | [], i, e, ob, h1, h2 => by
    refine ⟨⟨_, _, by simp [iterNames], h1, h2⟩, fun ac W σ s it Q E hh Lv hit hW hP hq => ?_⟩
    obtain ⟨lo, e1, ⟨vs, n, e2, e3⟩, _⟩ := Lv.atR hP hW
    subst e2
    have hi : all.length ≤ i := by
      have := congrArg List.length e
      simp at this; omega
    exact wpAny_pyNext_list_end hh ⟨ob, hit, h1, h2⟩ (items := vs.toArray) ⟨_, e1, rfl, _, rfl⟩ (by simp; rw [e3.length]; exact hi) hq
  | x :: r, i, e, ob, h1, h2 => by
    refine ⟨⟨_, _, by simp [iterNames], h1, h2⟩, fun ac W σ s it Q E hh Lv hit hW hP hq => ?_⟩
    obtain ⟨lo, e1, ⟨vs, n, e2, e3⟩, _⟩ := Lv.atR hP hW
    subst e2
    have hx : all[i]? = some x := by
      have := congrArg (fun l => l[0]?) e
      simpa using this.symm
    obtain ⟨v, hv, hr⟩ := e3.get hx
    refine wpAny_pyNext_list_item ⟨ob, hit, h1, h2⟩ (items := vs.toArray) ⟨_, e1, rfl, _, rfl⟩ (by simpa using hv) fun h' hl' hb => ?_
    obtain ⟨ob', q1, q2, q3⟩ := hl'
    refine hq v ob' h' s.toks hr hb q1 (next_list r (i + 1) ?_ ob' q2 q3)
    have := congrArg List.tail e
    simpa using this
theorem stable_adr {l : Nat} {a : Addr} : Stable (fun W => W.adr[l]? = some a) := ⟨fun _ _ h e => h.1 _ _ e, fun _ _ _ _ e => e⟩
theorem iter_list {l : Nat} {all : List AV} : IterOk prog w (.ref l) (fun σ => σ.vh[l]? = some (.list all)) all := by
  intro ac W σ s v Q E Lv hv hP hq
  obtain ⟨a, hv, ha⟩ := hv.inv
  · rw [hv]
    obtain ⟨lo, e1, ⟨vs, n, e2, e3⟩, _⟩ := Lv.atR hP ha
    subst e2
    refine wpAny_pyIter_list (items := vs.toArray) ⟨_, e1, rfl, _, rfl⟩ (hq _ _ ha stable_adr (next_list all 0 rfl _ rfl rfl) ?_)
    intro A s it Q E ho hq
    exact wpAny_pyIter_listiter ⟨_, ho, rfl, rfl⟩ hq

theorem next_tup {a : Addr} {vs : List Value} {en : Nat} {all : List AV} : ∀ (xs : List AV) (i : Nat), xs = all.drop i → ∀ (ob : Obj), ob.cls = .type "tuple_iterator" → ob.data = .fields #[.ref a, .int i 0] →
    NextOk prog w (fun W => (a, tupObj vs en) ∈ W.tups ∧ VRs W vs all) (fun _ => True) xs ob
  | [], i, e, ob, h1, h2 => by
    refine ⟨⟨_, _, by simp [iterNames], h1, h2⟩, fun ac W σ s it Q E hh Lv hit hW hP hq => ?_⟩
    have hi : all.length ≤ i := by
      have := congrArg List.length e
      simp at this; omega
    exact wpAny_pyNext_tuple_end hh ⟨ob, hit, h1, h2⟩ (Lv.isTuple hW.1) (by simp; rw [hW.2.length]; exact hi) hq
  | x :: r, i, e, ob, h1, h2 => by
    refine ⟨⟨_, _, by simp [iterNames], h1, h2⟩, fun ac W σ s it Q E hh Lv hit hW hP hq => ?_⟩
    have hx : all[i]? = some x := by
      have := congrArg (fun l => l[0]?) e
      simpa using this.symm
    obtain ⟨v, hv, hr⟩ := hW.2.get hx
    refine wpAny_pyNext_tuple_item ⟨ob, hit, h1, h2⟩ (Lv.isTuple hW.1) (by simpa using hv) fun h' hl' hb => ?_
    obtain ⟨ob', q1, q2, q3⟩ := hl'
    refine hq v ob' h' s.toks hr hb q1 (next_tup r (i + 1) ?_ ob' q2 q3)
    have := congrArg List.tail e
    simpa using this
theorem iter_tup {all : List AV} : IterOk prog w (.tup all) (fun _ => True) all := by
  intro ac W σ s v Q E Lv hv hP hq
  obtain ⟨a, vs, en, hv, hm, hvs⟩ := hv.inv
  · rw [hv]
    refine wpAny_pyIter_tuple (Lv.isTuple hm) (hq _ _ ⟨hm, hvs⟩ ⟨fun _ _ h e => ⟨h.2.1 _ e.1, e.2.mono h⟩, fun W b n hp e => ⟨swap_mem e.1 (by rintro rfl; exact (hp _ e.1).tup), e.2.swap hp⟩⟩ (next_tup all 0 rfl _ rfl rfl) ?_)
    intro A s it Q E ho hq
    exact wpAny_pyIter_tupleiter ⟨_, ho, rfl, rfl⟩ hq

noncomputable def strItems (s : Str) : List AV := s.cps.toList.map fun c => .str ⟨#[c]⟩
theorem next_str {x : Str} {t : Tok} : ∀ (xs : List AV) (i : Nat), xs = (strItems x).drop i → ∀ (ob : Obj), ob.cls = .type "str_ascii_iterator" → ob.data = .fields #[.str x t, .int i 0] →
    NextOk prog w (fun _ => True) (fun _ => True) xs ob
  | [], i, e, ob, h1, h2 => by
    refine ⟨⟨_, _, by simp [iterNames], h1, h2⟩, fun ac W σ s it Q E hh Lv hit hW hP hq => ?_⟩
    have hi : x.cps.size ≤ i := by
      have := congrArg List.length e
      simp [strItems] at this; omega
    exact wpAny_pyNext_ascii_end hh (x := x) (t := t) (i := i) ⟨ob, hit, h1, h2⟩ (by simp; exact hi) hq
  | y :: r, i, e, ob, h1, h2 => by
    refine ⟨⟨_, _, by simp [iterNames], h1, h2⟩, fun ac W σ s it Q E hh Lv hit hW hP hq => ?_⟩
    have hx : (strItems x)[i]? = some y := by
      have := congrArg (fun l => l[0]?) e
      simpa using this.symm
    simp only [strItems, List.getElem?_map, Option.map_eq_some_iff] at hx
    obtain ⟨c, hc, rfl⟩ := hx
    refine wpAny_pyNext_ascii_item (x := x) (t := t) (i := i) (c := c) ⟨ob, hit, h1, h2⟩ (by simpa using hc) fun h' hl' hb => ?_
    obtain ⟨ob', q1, q2, q3⟩ := hl'
    refine hq _ ob' h' _ (.str _ _) hb q1 (next_str r (i + 1) ?_ ob' q2 q3)
    have := congrArg List.tail e
    simpa using this
theorem iter_str {x : Str} (ha : x.cps.all (· < 128) = true) : IterOk prog w (.str x) (fun _ => True) (strItems x) := by
  intro ac W σ s v Q E Lv hv hP hq
  obtain ⟨t, hv⟩ := hv.inv
  · rw [hv]
    refine wpAny_pyIter_ascii ha (hq _ _ trivial ⟨fun _ _ _ _ => trivial, fun _ _ _ _ _ => trivial⟩ (next_str (strItems x) 0 rfl _ rfl rfl) ?_)
    intro A s it Q E ho hq
    exact wpAny_pyIter_striter_ascii (x := x) (t := t) (i := 0) ⟨_, ho, rfl, rfl⟩ hq

noncomputable def rngItems : Nat → Int → List AV
  | 0, _ => []
  | n + 1, lo => .int lo :: rngItems n (lo + 1)
theorem next_rng : ∀ (n : Nat) (lo : Int) (ob : Obj), ob = { cls := .type "range_iterator", data := .fields #[rawInt lo, rawInt n, rawInt 1] } → NextOk prog w (fun _ => True) (fun _ => True) (rngItems n lo) ob
  | 0, lo, ob, h => by
    refine ⟨⟨"range_iterator", _, by simp [iterNames], by rw [h], by rw [h]⟩, fun ac W σ s it Q E hh Lv hit hW hP hq => ?_⟩
    subst h
    exact wpAny_pyNext_range_end (x := lo) (left := ((0 : Nat) : Int)) (step := 1) hh hit (by omega) hq
  | n + 1, lo, ob, h => by
    refine ⟨⟨"range_iterator", _, by simp [iterNames], by rw [h], by rw [h]⟩, fun ac W σ s it Q E hh Lv hit hW hP hq => ?_⟩
    subst h
    refine wpAny_pyNext_range_item (x := lo) (left := ((n + 1 : Nat) : Int)) (step := 1) hit (by omega) fun h' hl' hb => ?_
    exact hq _ _ h' _ (.int _ _) hb hl' (next_rng n (lo + 1) _ (by
      have : ((n + 1 : Nat) : Int) - 1 = n := by omega
      rw [this]))
theorem iter_rng {lo hi : Int} (hsmall : Builtin.Range.small lo hi 1 = true) : IterOk prog w (.rng lo hi) (fun _ => True) (rngItems (hi - lo).toNat lo) := by
  intro ac W σ s v Q E Lv hv hP hq
  obtain ⟨a, t, u, r, hv, hm⟩ := hv.inv
  · rw [hv]
    have hsz : Builtin.Range.rangeSize lo hi 1 = ((hi - lo).toNat : Int) := by
      unfold Builtin.Range.rangeSize
      split <;> split <;> omega
    refine wpAny_pyIter_range (Lv.tup hm) hsmall (hq _ _ trivial ⟨fun _ _ _ _ => trivial, fun _ _ _ _ _ => trivial⟩ (next_rng _ lo _ (by rw [hsz])) ?_)
    intro A s it Q E ho hq
    exact wpAny_pyIter_rangeiter (x := lo) (left := Builtin.Range.rangeSize lo hi 1) (step := 1) ho hq
end

/-- the runs of a for over xs -/
inductive FRun (prog : Program) (w : World) (K : Frag) (b : Nat) (c : Cx) (target : Expr) (body : List Stmt) (P : AS → Prop) : List AV → AS → AFl → AS → Prop
  | done {σ : AS} : P σ → FRun prog w K b c target body P [] σ .next σ
  | step {σ σ1 σ2 σ3 : AS} {x : AV} {xs : List AV} {f : AFl} : P σ → TrA prog w K b c target σ x σ1 → TrB prog w K b c body σ1 .next σ2 → FRun prog w K b c target body P xs σ2 f σ3 → FRun prog w K b c target body P (x :: xs) σ f σ3
  | ret {σ σ1 σ2 : AS} {x y : AV} {xs : List AV} : P σ → TrA prog w K b c target σ x σ1 → TrB prog w K b c body σ1 (.ret y) σ2 → FRun prog w K b c target body P (x :: xs) σ (.ret y) σ2
/-- the runs of a while -/
inductive WRun (prog : Program) (w : World) (K : Frag) (b : Nat) (c : Cx) (test : Expr) (body : List Stmt) : Nat → AS → AFl → AS → Prop
  | done {σ σ1 : AS} : TrT prog w K b c test σ false σ1 → WRun prog w K b c test body 0 σ .next σ1
  | step {σ σ1 σ2 σ3 : AS} {n : Nat} {f : AFl} : TrT prog w K b c test σ true σ1 → TrB prog w K b c body σ1 .next σ2 → WRun prog w K b c test body n σ2 f σ3 → WRun prog w K b c test body (n + 1) σ f σ3
  | ret {σ σ1 σ2 : AS} {y : AV} : TrT prog w K b c test σ true σ1 → TrB prog w K b c body σ1 (.ret y) σ2 → WRun prog w K b c test body 0 σ (.ret y) σ2

section
variable {prog : Program} {w : World} {K : Frag} {b : Nat} {c : Cx} {σ σ1 σ2 σ3 : AS} {x y z : AV} {pos : Pos}

noncomputable def FRunI (prog : Program) (w : World) (K : Frag) (b : Nat) (c : Cx) (target : Expr) (body : List Stmt) (P : AS → Prop) : List AV → AS → AFl → AS → Prop
  | [], σ, f, σ' => P σ ∧ f = .next ∧ σ' = σ
  | x :: xs, σ, f, σ3 => P σ ∧ ((∃ σ1 σ2, TrA prog w K b c target σ x σ1 ∧ TrB prog w K b c body σ1 .next σ2 ∧ FRun prog w K b c target body P xs σ2 f σ3) ∨ ∃ σ1 y, f = .ret y ∧ TrA prog w K b c target σ x σ1 ∧ TrB prog w K b c body σ1 (.ret y) σ3)
theorem FRun.inv {target : Expr} {body : List Stmt} {P : AS → Prop} {xs : List AV} {f : AFl} (h : FRun prog w K b c target body P xs σ f σ1) : FRunI prog w K b c target body P xs σ f σ1 :=
  FRun.casesOn (motive := fun xs σ f σ1 _ => FRunI prog w K b c target body P xs σ f σ1) h (fun p => ⟨p, rfl, rfl⟩) (fun p a b r => ⟨p, .inl ⟨_, _, a, b, r⟩⟩) (fun p a b => ⟨p, .inr ⟨_, _, rfl, a, b⟩⟩)
theorem FRun.start {target : Expr} {body : List Stmt} {P : AS → Prop} {xs : List AV} {f : AFl} (h : FRun prog w K b c target body P xs σ f σ1) : P σ :=
  FRun.casesOn (motive := fun _ σ _ _ _ => P σ) h (fun p => p) (fun p _ _ _ => p) (fun p _ _ => p)
theorem FlR.next_inv {W : Wd} {v : Flow} (h : FlR W v .next) : v = .next := by cases h; rfl
theorem FlR.ret_inv {W : Wd} {v : Flow} {x : AV} (h : FlR W v (.ret x)) : ∃ u, v = .ret u ∧ VR W u x := by cases h with | ret h => exact ⟨_, rfl, h⟩
/-- between two turns of a while -/
inductive WInv (prog : Program) (w : World) (K : Frag) (b : Nat) (c : Cx) (test : Expr) (body : List Stmt) (ac : Act) (W : Wd) (s : Shared) (f : AFl) (σ1 : AS) (k : Nat) (s' : Shared) : Prop
  | mk (W' : Wd) (h' : Heap) (tk' : Nat) (σ' : AS) (hle : W.le W') (hs : s' = { s with heap := h', toks := tk' }) (hL : Lives prog w ac W' σ' h') (hr : WRun prog w K b c test body k σ' f σ1)
/-- between two turns of a for -/
inductive FInv (prog : Program) (w : World) (K : Frag) (b : Nat) (c : Cx) (target : Expr) (body : List Stmt) (P : AS → Prop) (PW : Wd → Prop) (ac : Act) (W : Wd) (it : Addr) (s : Shared) (f : AFl) (σ2 : AS) (k : Nat) (s' : Shared) : Prop
  | mk (W' : Wd) (h' : Heap) (tk' : Nat) (σ' : AS) (ys : List AV) (ob' : Obj) (hk : k = ys.length) (hle : W.le W') (hs : s' = { s with heap := h', toks := tk' }) (hL : Lives prog w ac W' σ' h') (hi : (it, ob') ∈ W'.tups) (hp : PW W') (hN : NextOk prog w PW P ys ob') (hr : FRun prog w K b c target body P ys σ' f σ2)
theorem S_While {test : Expr} {body : List Stmt} {n : Nat} {f : AFl} (h : WRun prog w K b c test body n σ f σ1) : TrS prog w K b c (.While test body [] pos) σ f σ1 := by
  intro ac env W s Q E O ER Lv hq
  refine wpAny_While (codeAny_whileLoop (WInv prog w K b c test body ac W s f σ1) ?_ n ⟨W, s.heap, s.toks, σ, W.le_refl, rfl, Lv, h⟩)
  rintro k s' ⟨W1, h1', tk1, σ', le1, rfl, Lv1, hr⟩
  cases hr with
  | done t =>
    refine t ac env W1 _ _ _ O (ER.mono le1) Lv1 fun v W2 h2' tk2 le2 Lv2 r => ?_
    subst r
    exact wpAny_execs_nil (hq _ W2 h2' tk2 (le1.trans le2) Lv2 .next)
  | step t bd rest =>
    refine t ac env W1 _ _ _ O (ER.mono le1) Lv1 fun v W2 h2' tk2 le2 Lv2 r => ?_
    subst r
    simp only [if_true]
    refine bd ac env W2 _ _ _ O (ER.mono (le1.trans le2)) Lv2 fun v W3 h3' tk3 le3 Lv3 r => ?_
    rw [r.next_inv]
    exact ⟨_, Nat.lt_succ_self _, W3, h3', tk3, _, (le1.trans le2).trans le3, rfl, Lv3, rest⟩
  | ret t bd =>
    refine t ac env W1 _ _ _ O (ER.mono le1) Lv1 fun v W2 h2' tk2 le2 Lv2 r => ?_
    subst r
    simp only [if_true]
    refine bd ac env W2 _ _ _ O (ER.mono (le1.trans le2)) Lv2 fun v W3 h3' tk3 le3 Lv3 r => ?_
    obtain ⟨u, e, r⟩ := r.ret_inv
    rw [e]
    exact hq _ W3 h3' tk3 ((le1.trans le2).trans le3) Lv3 (.ret r)

theorem Wd.le_swap {W0 W : Wd} {it : Addr} {n : List (Addr × Obj)} (h : W0.le W) (hf : ∀ p ∈ W0.tups, p.1 ≠ it) : W0.le (W.swap it n) := ⟨h.1, fun p hp => List.mem_append_right _ (List.mem_filter.mpr ⟨h.2.1 p hp, by simpa using hf p hp⟩), h.2.2⟩

theorem S_For {target iter : Expr} {body : List Stmt} {P : AS → Prop} {xs : List AV} {f : AFl} (h : TrE prog w K b c iter σ x σ1) (hi : IterOk prog w x P xs) (hr : FRun prog w K b c target body P xs σ1 f σ2) (hs : ∀ env x, foldedSetIterable iter env x = pure x) :
    TrS prog w K b c (.For target iter body [] pos) σ f σ2 := by
  intro ac env W s Q E O ER Lv hq
  have hP : P σ1 := hr.start
  refine wpAny_For (h ac env W s _ E O ER Lv fun v1 W1 h1' tk1 le1 Lv1 r1 => hi ac W1 σ1 _ v1 _ E Lv1 r1 hP fun ob PW hPW st hN hA => ?_) (hs env)
  have hfree : ∀ p ∈ W1.tups, p.1 ≠ h1'.objs.size := fun p hp => Nat.ne_of_lt (Heap.lt_size (Lv1.tup (ob := p.2) hp))
  have start : Lives prog w ac (W1.addT (h1'.objs.size, ob)) σ1 (h1'.push ob) := Lv1.addT (fun _ _ e => Heap.get?_push_of_some _ e) (get_size_none _) (Heap.get?_push_size _ hN.iterish.notFreed)
  refine codeAny_forLoop_any (FInv prog w K b c target body P PW ac W1 h1'.objs.size s f σ2) ?_ xs.length
    ⟨_, _, tk1, σ1, xs, ob, rfl, W1.le_addT _, rfl, start, .head _, st.le _ _ (W1.le_addT _) hPW, hN, hr⟩
  rintro k s' ⟨W2, h2', tk2, σ', ys, ob2, rfl, le2, rfl, Lv2, hm2, hPW2, hN2, hr2⟩
  have hob2 := Lv2.tup hm2
  have hpass : Passing W2 h1'.objs.size := fun o z => by
    have := Lv2.tup z
    rw [hob2] at this; cases this
    exact hN2.iterish.not
  cases ys with
  | nil =>
    obtain ⟨p, e1, e2⟩ := hr2.inv
    · rw [e1, e2] at hq
      refine hN2.2 ac W2 σ' _ _ _ _ O.handled Lv2 hob2 hPW2 p fun h3' hx => ?_
      refine wpAny_execs_nil (hq _ (W2.swap h1'.objs.size []) h3' tk2 (le1.trans (Wd.le_swap le2 hfree)) (Lv2.swapT hm2 hN2.iterish.not (fun b o hb e => hx b o hb e) [] (fun p hp => by cases hp)) .next)
  | cons y ys =>
    obtain ⟨hp, hr2⟩ := hr2.inv
    refine hN2.2 ac W2 σ' _ _ _ _ O.handled Lv2 hob2 hPW2 hp fun v ob3 h3' tk3 rv hb hob3 hN3 => ?_
    have Lv3 : Lives prog w ac (W2.swap h1'.objs.size [(h1'.objs.size, ob3)]) σ' h3' := Lv2.swapT hm2 hN2.iterish.not (fun b o hb' e => (hb.2 b hb').trans e) _ fun p hp => by
      simp at hp; subst hp; exact ⟨rfl, hob3⟩
    have le3 : W1.le (W2.swap h1'.objs.size [(h1'.objs.size, ob3)]) := Wd.le_swap le2 hfree
    have hm3 : (h1'.objs.size, ob3) ∈ (W2.swap h1'.objs.size [(h1'.objs.size, ob3)]).tups := List.mem_append_left _ (.head _)
    refine letOwned_iter hob3 hN3.iterish ?_
    rcases hr2 with ⟨σ3, σ4, ta, bd, rest⟩ | ⟨σ3, y', e, ta, bd⟩
    · refine ta ac env _ _ _ _ v O (ER.mono (le1.trans le3)) Lv3 (rv.swap hpass) fun W4 h4' tk4 le4 Lv4 => ?_
      refine bd ac env W4 _ _ _ O (ER.mono ((le1.trans le3).trans le4)) Lv4 fun fl W5 h5' tk5 le5 Lv5 r5 => ?_
      rw [r5.next_inv]
      exact ⟨ys.length, Nat.lt_succ_self _, W5, h5', tk5, _, ys, ob3, rfl, (le3.trans le4).trans le5, rfl, Lv5, le5.2.1 _ (le4.2.1 _ hm3), st.le _ _ (le4.trans le5) (st.swap _ _ _ hpass hPW2), hN3, rest⟩
    · rw [e] at hq
      refine ta ac env _ _ _ _ v O (ER.mono (le1.trans le3)) Lv3 (rv.swap hpass) fun W4 h4' tk4 le4 Lv4 => ?_
      refine bd ac env W4 _ _ _ O (ER.mono ((le1.trans le3).trans le4)) Lv4 fun fl W5 h5' tk5 le5 Lv5 r5 => ?_
      obtain ⟨u, e, r5⟩ := r5.ret_inv
      · rw [e]
        exact hq _ W5 h5' tk5 (((le1.trans le3).trans le4).trans le5) Lv5 (.ret r5)
end

section
variable (prog : Program) (w : World) (K : Frag)
/-- the contract of a call: in every frame, on the virtual heap vh -/
noncomputable def TrC (b : Nat) (f : Value) (xs : List AV) (vh : List AO) (y : AV) (vh' : List AO) : Prop :=
  ∀ (ac : Act) (W : Wd) (fm : List (Str × Option AV)) (s : Shared) (Q : Value → Shared → Prop) (E : Value → Shared → Prop) (vs : List Value), Ok K b ac → Lives prog w ac W ⟨fm, vh⟩ s.heap → VRs W vs xs →
    (∀ v W' h' tk', W.le W' → Lives prog w ac W' ⟨fm, vh'⟩ h' → VR W' v y → Q v { s with heap := h', toks := tk' }) →
    wpAny (model prog w) ac.A (call f vs) Q E s
/-- the same of the code -/
noncomputable def TrK (b : Nat) (f : Value) (xs : List AV) (vh : List AO) (y : AV) (vh' : List AO) : Prop :=
  ∀ (ac : Act) (W : Wd) (fm : List (Str × Option AV)) (s : Shared) (R : Result → Shared → Prop) (vs : List Value), Ok K b ac → Lives prog w ac W ⟨fm, vh⟩ s.heap → VRs W vs xs →
    (∀ v W' h' tk', W.le W' → Lives prog w ac W' ⟨fm, vh'⟩ h' → VR W' v y → R (.ok (.ret v)) { s with heap := h', toks := tk' }) →
    codeAny (model prog w) ac.A (.call f ⟨vs, []⟩) R s
/-- the method of a value -/
noncomputable def TrM (x : AV) (name : Str) (vh : List AO) (f : Value) : Prop :=
  ∀ (b : Nat) (ac : Act) (W : Wd) (fm : List (Str × Option AV)) (s : Shared) (pl : Sem Bool) (Q : Value × List Value → Shared → Prop) (E : Value → Shared → Prop) (v : Value), Ok K b ac → Lives prog w ac W ⟨fm, vh⟩ s.heap → VR W v x →
    Q (f, [v]) s → wpAny (model prog w) ac.A (getMethod v name pl) Q E s
/-- who keeps the arguments of a call -/
noncomputable def KeepOk (f : Value) : Prop := ∀ h, K.In h → ∃ k, (k = Keeper.frame ∨ k = Keeper.machine ∨ k = Keeper.boundFrame) ∧ Looks (model prog w) h (keeperOf f) k
end
section
variable {prog : Program} {w : World} {K : Frag} {b : Nat} {c : Cx} {σ σ1 σ2 σ3 : AS} {x y z : AV} {pos apos : Pos}

theorem Ok.mono {b' : Nat} {ac : Act} (O : Ok K b ac) (h : b' ≤ b) : Ok K b' ac := ⟨O.below, O.kin, O.top, O.frames, O.fr, O.kind, O.handled, by have := O.depth; omega, by have := O.units; omega⟩
theorem TrK.call {f : Value} {xs : List AV} {vh vh' : List AO} (h : TrK prog w K b f xs vh y vh') : TrC prog w K b f xs vh y vh' := by
  intro ac W fm s Q E vs O Lv hv hq
  exact wpAny_call (h ac W fm s _ vs O Lv hv fun v W' h' tk' le L r => hq v W' h' tk' le L r)
theorem TrC.mono {b' : Nat} {f : Value} {xs : List AV} {vh vh' : List AO} (h : TrC prog w K b' f xs vh y vh') (hb : b' ≤ b) : TrC prog w K b f xs vh y vh' :=
  fun ac W fm s Q E vs O Lv hv hq => h ac W fm s Q E vs (O.mono hb) Lv hv hq
theorem TrK.mono {b' : Nat} {f : Value} {xs : List AV} {vh vh' : List AO} (h : TrK prog w K b' f xs vh y vh') (hb : b' ≤ b) : TrK prog w K b f xs vh y vh' :=
  fun ac W fm s Q vs O Lv hv hq => h ac W fm s Q vs (O.mono hb) Lv hv hq
theorem keep_builtin {id : String} : KeepOk prog w K (.builtin id) := fun _ _ => ⟨.machine, .inr (.inl rfl), Looks.of_pure rfl⟩
theorem keep_type {id : String} : KeepOk prog w K (.type id) := fun _ _ => ⟨.machine, .inr (.inl rfl), Looks.of_pure rfl⟩
theorem keep_own {f : Value} (h : keepIn K f = true) : KeepOk prog w K f := fun h' X => by
  obtain ⟨k, a, l⟩ := looks_keep (M := model prog w) h X
  exact ⟨k, a.elim .inl (fun e => .inr (.inl e)), l⟩

theorem starEach_plain {env : Env} : ∀ {es : List Expr}, es.all notStarred = true → ((backTo pos (starEach es env)).any (·.1)) = false
  | [], _ => rfl
  | e :: r, h => by
    rw [List.all_cons, Bool.and_eq_true] at h
    have ih := starEach_plain (env := env) h.2
    rw [starEach_cons h.1]
    exact ih

/-- the arguments, then the call -/
theorem callWith_ok {f : Value} {first : List Value} {es : List Expr} {xs : List AV} (hk : KeepOk prog w K f) (hes : es.all notStarred = true) (ha : TrL prog w K b c pos es σ xs σ1)
    {ac : Act} {env : Env} {W : Wd} {s : Shared} {Q : Value → Shared → Prop} {E : Value → Shared → Prop} (O : Ok K b ac) (ER : EnvR W c ac env) (Lv : Lives prog w ac W σ s.heap)
    (hc : ∀ vs W' h' tk', W.le W' → Lives prog w ac W' σ1 h' → VRs W' vs xs → wpAny (model prog w) ac.A (call f (first ++ vs)) Q E { s with heap := h', toks := tk' }) :
    wpAny (model prog w) ac.A (callWith pos f first (backTo pos (starEach es env)) (backToKw pos (keywordEach [] env))) Q E s := by
  refine callWith_of (P := K.In) ?_ (fun h X => hk h X) ?_
  · rw [starEach_plain hes]; rfl
  · cases es with
    | nil =>
      have h := ha ac env W s (fun vs s' => K.In s'.heap ∧ wpAny (model prog w) ac.A (call f (first ++ vs)) Q E s') E O ER Lv fun vs W' h' tk' le L r => ⟨L.kin O, hc vs W' h' tk' le L r⟩
      show wpAny _ _ (evalArgs f true [] []) _ _ _
      unfold evalArgs
      show wpAny _ _ (spliced [] >>= _) _ _ s
      refine wpAny_bind (wpAny_mono h (fun vs s' h' => ?_) fun _ _ x => x)
      refine wpAny_holding ?_
      exact wpAny_bind (wpAny_pure (wpAny_bind (wpAny_pure (wpAny_pure h'))))
    | cons e r =>
      rw [List.all_cons, Bool.and_eq_true] at hes
      have e1 := starEach_cons (r := r) (env := env) hes.1
      have h := ha ac env W s (fun vs s' => K.In s'.heap ∧ wpAny (model prog w) ac.A (call f (first ++ vs)) Q E s') E O ER Lv fun vs W' h' tk' le L r => ⟨L.kin O, hc vs W' h' tk' le L r⟩
      have h2 : wpAny (model prog w) ac.A (spliced (backTo pos (starEach (e :: r) env))) (fun vs s' => K.In s'.heap ∧ wpAny (model prog w) ac.A (call f (first ++ vs)) Q E s') E s := h
      rw [e1] at h2 ⊢
      exact evalArgs_plain h2

noncomputable def notAttr (e : Expr) : Bool := !(e.ctorIdx.beq 20)
theorem call_eq {func : Expr} {es : List Expr} {env : Env} (hf : notAttr func = true) : eval (.Call func es [] pos) env = (do callWith pos (← eval func env) [] (backTo pos (starEach es env)) (backToKw pos (keywordEach [] env))) := by
  cases func <;> first | rfl | cases hf
theorem E_Call {func : Expr} {f : Value} {es : List Expr} {xs : List AV} {vh' : List AO} (h1 : TrE prog w K b c func σ (.con f) σ1) (hk : KeepOk prog w K f) (hes : es.all notStarred = true) (ha : TrL prog w K b c pos es σ1 xs σ2)
    (hc : TrC prog w K b f xs σ2.vh y vh') (hf : notAttr func = true) : TrE prog w K b c (.Call func es [] pos) σ y ⟨σ2.fm, vh'⟩ := by
  intro ac env W s Q E O ER Lv hq
  show wpAny _ _ (eval (.Call func es [] pos) env) Q E s
  rw [call_eq hf]
  refine wpAny_bind (h1 ac env W s _ E O ER Lv fun v1 W1 h1' tk1 le1 Lv1 r1 => ?_)
  rw [r1.inv]
  refine callWith_ok hk hes ha O (ER.mono le1) Lv1 fun vs W2 h2' tk2 le2 Lv2 r2 => ?_
  exact hc ac W2 σ2.fm _ _ _ _ O Lv2 r2 fun v W3 h3' tk3 le3 Lv3 r3 => hq v W3 h3' tk3 ((le1.trans le2).trans le3) Lv3 r3

noncomputable def baseOk (e : Expr) : Bool := !(e.ctorIdx.beq 16)
theorem base_plain {o : Expr} {attr : Str} {env : Env} {m : Sem Value} (h : baseOk o = true) : attributeBase o attr env m = m := by
  cases o <;> first | rfl | cases h
theorem E_Method {o : Expr} {name : Str} {f : Value} {es : List Expr} {xs : List AV} {vh' : List AO} (h1 : TrE prog w K b c o σ x σ1) (hm : TrM prog w K x name σ1.vh f) (hk : KeepOk prog w K f) (hes : es.all notStarred = true) (ha : TrL prog w K b c pos es σ1 xs σ2)
    (hc : TrC prog w K b f (x :: xs) σ2.vh y vh') (hb : baseOk o = true) (hl : (apos.endLine == pos.line) = true) (hn : decide (es.length < 30) = true) : TrE prog w K b c (.Call (.Attribute o name apos) es [] pos) σ y ⟨σ2.fm, vh'⟩ := by
  intro ac env W s Q E O ER Lv hq
  have hfew : methodCallForm (es.length + 0) (backTo pos (starEach es env)) (backToKw pos (keywordEach [] env)) = true := by
    unfold methodCallForm
    have : (backTo pos (starEach es env)).all (fun x => !x.1) = true := by
      have := starEach_plain (pos := pos) (env := env) hes
      rw [List.any_eq_false] at this
      rw [List.all_eq_true]
      intro p hp
      have := this p hp
      simpa using this
    rw [this]
    show (true && true && decide (es.length + 0 + 0 < 30)) = true
    exact hn
  have e1 : eval (.Call (.Attribute o name apos) es [] pos) env = (do
      let ov ← eval o env
      standAt apos.atName
      methodCall o name apos pos env ov (es.length + 0) (backTo pos (starEach es env)) (backToKw pos (keywordEach [] env))) := by
    show (do
      let ov ← attributeBase o name env (eval o env)
      standAt apos.atName
      methodCall o name apos pos env ov (es.length + 0) (backTo pos (starEach es env)) (backToKw pos (keywordEach [] env))) = _
    rw [base_plain hb]
  show wpAny _ _ (eval (.Call (.Attribute o name apos) es [] pos) env) Q E s
  rw [e1]
  refine wpAny_bind (h1 ac env W s _ E O ER Lv fun v1 W1 h1' tk1 le1 Lv1 r1 => wpAny_bind (wpAny_standAt ?_))
  unfold methodCall calleeOf methodCallPos
  rw [hfew]
  simp only [if_true, Bool.not_true, Bool.false_or, hl]
  refine wpAny_bind (wpAny_holding (hm b ac W1 σ1.fm _ _ _ _ v1 O Lv1 r1 ?_))
  refine wpAny_bind (wpAny_pure ?_)
  refine callWith_ok hk hes ha O (ER.mono le1) Lv1 fun vs W2 h2' tk2 le2 Lv2 r2 => ?_
  exact hc ac W2 σ2.fm _ _ _ _ O Lv2 (.cons (r1.mono le2) r2) fun v W3 h3' tk3 le3 Lv3 r3 => hq v W3 h3' tk3 ((le1.trans le2).trans le3) Lv3 r3
end

noncomputable def initFm (ps : List Str) (xs : List AV) (locs : List Str) : List (Str × Option AV) := ps.zip (xs.map some) ++ locs.map fun n => (n, none)

theorem lookup_app {α : Type} (z : Str) : ∀ (l r : List (Str × α)), (l ++ r).lookup z = (l.lookup z).or (r.lookup z)
  | [], r => by simp
  | (k, v) :: l, r => by
    rw [List.cons_append, lookup_hd, lookup_hd, lookup_app z l r]
    by_cases h : z = k
    · rw [if_pos h, if_pos h]; rfl
    · rw [if_neg h, if_neg h]
theorem lookup_none {α : Type} {z : Str} : ∀ {l : List (Str × α)}, z ∉ l.map (·.1) → l.lookup z = none
  | [], _ => rfl
  | (k, v) :: l, h => by
    rw [List.map_cons, List.mem_cons, not_or] at h
    rw [lookup_hd, if_neg h.1, lookup_none h.2]
theorem lookup_rev {α : Type} {z : Str} : ∀ {l : List (Str × α)}, (l.map (·.1)).Nodup → l.reverse.lookup z = l.lookup z
  | [], _ => rfl
  | (k, v) :: l, h => by
    rw [List.map_cons, List.nodup_cons] at h
    rw [List.reverse_cons, lookup_app, lookup_rev h.2, lookup_hd, lookup_hd]
    by_cases q : z = k
    · rw [if_pos q, if_pos q, q, lookup_none h.1]; rfl
    · rw [if_neg q, if_neg q]
      cases l.lookup z <;> rfl
theorem zip_fst {α : Type} : ∀ {ps : List Str} {l : List α}, ps.length = l.length → (ps.zip l).map (·.1) = ps
  | [], _, _ => by simp
  | p :: ps, [], h => by simp at h
  | p :: ps, x :: l, h => by
    simp only [List.zip_cons_cons, List.map_cons]
    rw [zip_fst (by simpa using h)]
theorem zip_look {W : Wd} {ps : List Str} {vs : List Value} {xs : List AV} (hv : VRs W vs xs) {z : Str} : ∀ {y : AV}, (ps.zip (xs.map some)).lookup z = some (some y) → ∃ v, (ps.zip vs).lookup z = some v ∧ VR W v y := by
  induction ps generalizing vs xs with
  | nil => intro y h; cases h
  | cons p ps ih =>
    intro y h
    cases xs with
    | nil => cases h
    | cons x xs =>
      obtain ⟨v, us, e, h1, h2⟩ := hv.inv
      rw [e]
      rw [List.map_cons, List.zip_cons_cons, lookup_hd] at h
      rw [List.zip_cons_cons, lookup_hd]
      by_cases q : z = p
      · rw [if_pos q] at h ⊢
        exact ⟨_, rfl, Option.some.inj (Option.some.inj h) ▸ h1⟩
      · rw [if_neg q] at h ⊢
        exact ih h2 h
theorem lookup_locs {z : Str} {y : AV} : ∀ {locs : List Str}, (locs.map fun n => (n, (none : Option AV))).lookup z = some (some y) → False
  | [], h => by simp at h
  | l :: r, h => by
    rw [List.map_cons, lookup_hd] at h
    by_cases q : z = l
    · rw [if_pos q] at h; cases h
    · rw [if_neg q] at h; exact lookup_locs h
theorem FrR.init {W : Wd} {ps : List Str} {vs : List Value} {xs : List AV} {locs : List Str} (h : VRs W vs xs) (hl : ps.length = xs.length) (hnd : ps.Nodup) : FrR W (fun y => (ps.zip vs).reverse.lookup y) (initFm ps xs locs) := fun z y e => by
  have hf : ((ps.zip vs).map (·.1)).Nodup := by rw [zip_fst (by rw [hl, h.length])]; exact hnd
  show ∃ v, (ps.zip vs).reverse.lookup z = some v ∧ VR W v y
  rw [lookup_rev hf]
  unfold initFm at e
  rw [lookup_app] at e
  cases q : (ps.zip (xs.map some)).lookup z with
  | none => rw [q] at e; exact (lookup_locs (by simpa using e)).elim
  | some o =>
    rw [q] at e
    have : o = some y := by simpa using e
    subst this
    exact zip_look h q

noncomputable def retOf : AFl → AV
  | .ret x => x
  | _ => .none
noncomputable def flowVal : Flow → Value := fun fl => match fl with | .ret v => v | _ => .none
theorem FlR.val {W : Wd} {fl : Flow} {f : AFl} (h : FlR W fl f) : VR W (flowVal fl) (retOf f) := by
  cases h with
  | ret h => exact h
  | _ => exact .none

section
variable {prog : Program} {w : World} {K : Frag} {b : Nat} {c : Cx} {σ σ1 σ2 σ3 : AS} {x y z : AV} {pos apos : Pos}

theorem VRs.app_len {W : Wd} {vs dv : List Value} {xs dx : List AV} (h : VRs W vs xs) (h2 : VRs W dv dx) : VRs W (vs ++ dv) (xs ++ dx) := h.append h2

/-- from a call into the body of a def, and back -/
theorem C_fun {f : Addr} {name qual : Str} {params : Arguments} {body : List Stmt} {scope : Scope} {dV kV doc pm cdv ct oc : Value} {an od : Option Addr} {osl : Array (Option Value)} {xs dx : List AV} {dv : List Value} {ps locs : List Str} {vh vh' : List AO} {fl : AFl} {fm1 : List (Str × Option AV)}
    (ho : K.lookup f = some ⟨oc, od, .func (fnOf name qual params body scope dV kV doc pm an cdv ct), osl⟩) (hcd : codeIn K cdv qual = true)
    (hbind : ∀ (s : Shared) (vs : List Value), K.In s.heap → vs.length = xs.length → BindsTo s (fnOf name qual params body scope dV kV doc pm an cdv ct) ⟨vs, []⟩ (ps.zip (vs ++ dv)))
    (hdv : ∀ W, VRs W dv dx) (hnd : ps.Nodup) (hlen : ps.length = xs.length + dx.length) (hloc : ps.all (fun n => decide (scope.names.lookup n = some .local)) = true)
    (hcell : ∀ x ∈ scope.names, x.2 ≠ .cell) (hco : scope.isCoroutine = false) (hgen : scope.isGenerator = false) (hk : scope.kind = .function)
    (hbody : TrB prog w K b ⟨scope, [], none, qual ++ ".<locals>.", cdv⟩ body ⟨initFm ps (xs ++ dx) locs, vh⟩ fl ⟨fm1, vh'⟩) : TrK prog w K (b + 1) (.ref f) xs vh (retOf fl) vh' := by
  intro ac W fm s R vs O Lv hv hq
  obtain ⟨p, loose, mean, mg, mb, T⟩ := O.top
  have hroom : ac.A.depth < recursionLimit := by have := O.depth; omega
  obtain ⟨m, reals, y⟩ := Lv
  have hvl : (vs ++ dv).length = ps.length := by rw [List.length_append, hlen, hv.length, (hdv W).length]
  have X := O.kin.keeps y.F.keep
  refine callX_plain (cl := []) (binds := ps.zip (vs ++ dv)) O.below y.F y.N T.nolimit O.frames O.fr O.kind (X _ _ ho) rfl (codeRec_of X hcd) hroom (hbind s vs X hv.length) ?_ ?_ hcell hco hgen hk
  · intro q hq'
    have := (List.of_mem_zip hq').1
    exact of_decide_eq_true (List.all_eq_true.mp hloc _ this)
  · intro g L' h₁ FG F' N' B' st lt
    have hfm : FrR W (fun y => (ps.zip (vs ++ dv)).reverse.lookup y) (initFm ps (xs ++ dx) locs) := FrR.init (hv.append (hdv W)) (by rw [List.length_append]; exact hlen) hnd
    have Lv' : Lives prog w ⟨ac.A.deeper (envX qual scope L' f cdv []), envX qual scope L' f cdv [], ac.fenv :: ac.outer, ac.A, ac.base, g, L'⟩ W ⟨initFm ps (xs ++ dx) locs, vh⟩ h₁ :=
      ⟨_, reals, F', N', y.T, y.nd, y.low, y.la, y.lv, hfm, y.ob, y.tb, fun p hp => st _ _ (y.bs p hp)⟩
    have O' : Ok K b ⟨ac.A.deeper (envX qual scope L' f cdv []), envX qual scope L' f cdv [], ac.fenv :: ac.outer, ac.A, ac.base, g, L'⟩ := by
      refine ⟨B', O.kin.keeps st, ⟨p, loose, mean, mg, mb, T.keeps st⟩, Around.frames_deeper O.frames, rfl, hk, O.handled, ?_, ?_⟩
      · show ac.A.depth + 1 + b < recursionLimit
        have := O.depth; omega
      · show ac.A.units + 3 + 64 + 8 * b < cLine
        have := O.units; omega
    have ER : EnvR W ⟨scope, [], none, qual ++ ".<locals>.", cdv⟩ ⟨ac.A.deeper (envX qual scope L' f cdv []), envX qual scope L' f cdv [], ac.fenv :: ac.outer, ac.A, ac.base, g, L'⟩ (envX qual scope L' f cdv []) :=
      ⟨rfl, rfl, rfl, hk, (fun _ _ e => by cases e), rfl, rfl, rfl, rfl⟩
    refine hbody _ _ W _ _ _ O' ER Lv' fun v W' h' tk' le L r => ?_
    obtain ⟨m', reals', y'⟩ := L
    refine leaveK_ y'.F y'.N fun F2 N2 => ?_
    exact hq _ W' h' tk' le ⟨m, reals', F2, N2, y'.T, y'.nd, y'.low, y'.la, y'.lv, y.fm.mono le, y'.ob, y'.tb, fun p hp => y.bs p (le.2.2 ▸ hp)⟩ r.val

/-- an object of an own class is made -/
theorem C_new {C fI : Addr} {xs : List AV} {vh vh' : List AO} (hm : makesIn K C = true) (hi : findIn K (.ref C) "__init__" = some (some (.ref fI))) (hf : typeIn K (.ref fI) = some (.type "function"))
    (h : TrK prog w K b (.ref fI) (.ref (vh.length + 1) :: xs) (vh ++ [.ns []] ++ [.inst C vh.length]) .none vh') : TrK prog w K (b + 1) (.ref C) xs vh (.ref (vh.length + 1)) vh' := by
  intro ac W fm s R vs O Lv hv hq
  have X := Lv.kin O
  have hlow := Lv.size_low O
  obtain ⟨hh, g, d, t, os⟩ := s
  refine make_core (makes_of X hm) (looks_findIn X hi) (fun self => bind_fn X self hf) (.inl rfl) ?_
  have L1 : Lives prog w ac (W.add hh.objs.size) ⟨fm, vh ++ [.ns []]⟩ (hh.push emptyDict) := Lv.add (fun _ _ e => Heap.get?_push_of_some _ e) (get_size_none _) (Heap.get?_push_size _ rfl) ⟨[], 0, rfl, .nil⟩ hlow
  have hsz : (hh.push emptyDict).objs.size = hh.objs.size + 1 := Heap.size_push _ _
  have L2 : Lives prog w ac ((W.add hh.objs.size).add (hh.objs.size + 1)) ⟨fm, vh ++ [.ns []] ++ [.inst C vh.length]⟩ ((hh.push emptyDict).push (instObj C hh.objs.size)) := by
    refine L1.add (fun _ _ e => Heap.get?_push_of_some _ e) (by rw [← hsz]; exact get_size_none _) (by rw [← hsz]; exact Heap.get?_push_size _ rfl) ⟨hh.objs.size, ?_, rfl⟩ (Nat.lt_succ_of_lt hlow)
    exact (Wd.le_add _ _).1 _ _ (by rw [← Lv.len]; exact W.add_get _)
  have le1 : W.le ((W.add hh.objs.size).add (hh.objs.size + 1)) := (W.le_add _).trans (Wd.le_add _ _)
  have hx : ((W.add hh.objs.size).add (hh.objs.size + 1)).adr[vh.length + 1]? = some (hh.objs.size + 1) := by
    have h1 := L1.len
    have h2 : (vh ++ [AO.ns []]).length = vh.length + 1 := by simp
    have := (W.add hh.objs.size).add_get (hh.objs.size + 1)
    rw [h1, h2] at this
    exact this
  have O' : Ok K b { ac with A := ac.A.under (.builtin "type.__call__" ⟨.ref C :: vs, []⟩) } := by
    refine ⟨O.below, O.kin, O.top, ?_, O.fr, O.kind, O.handled, ?_, ?_⟩
    · exact O.frames
    · show ac.A.depth + 1 + b < recursionLimit
      have := O.depth; omega
    · show ac.A.units + 1 + 64 + 8 * b < cLine
      have := O.units; omega
  have L2' : Lives prog w { ac with A := ac.A.under (.builtin "type.__call__" ⟨.ref C :: vs, []⟩) } ((W.add hh.objs.size).add (hh.objs.size + 1)) ⟨fm, vh ++ [.ns []] ++ [.inst C vh.length]⟩ ((hh.push emptyDict).push (instObj C hh.objs.size)) := by
    obtain ⟨m, reals, y⟩ := L2
    exact ⟨m, reals, y.F, y.N, y.T, y.nd, y.low, y.la, y.lv, y.fm, y.ob, y.tb, y.bs⟩
  refine h _ ((W.add hh.objs.size).add (hh.objs.size + 1)) fm ⟨(hh.push emptyDict).push (instObj C hh.objs.size), g, d, t, os⟩ _ _ O' L2' (.cons (.ref hx) (hv.mono le1)) fun v W' h' tk' le L r => ?_
  refine ⟨r.inv, hq _ W' h' tk' (le1.trans le) ?_ (.ref (le.1 _ _ hx))⟩
  obtain ⟨m, reals, y⟩ := L
  exact ⟨m, reals, y.F, y.N, y.T, y.nd, y.low, y.la, y.lv, y.fm, y.ob, y.tb, y.bs⟩
end

section
variable {prog : Program} {w : World} {K : Frag} {b : Nat} {c : Cx} {σ σ1 σ2 σ3 : AS} {x y z : AV} {pos apos : Pos} {vh : List AO}

theorem Live.same {ac : Act} {W : Wd} {h h' : Heap} {m : Str → Option Value} {reals : List Obj} (y : Live prog w ac W σ h m reals) (F : Fr ac.h₀ ac.L h' m) (N : News ac.h₀ ac.L h' (W.tups ++ W.adr.zip reals)) : Lives prog w ac W σ h' :=
  ⟨m, reals, F, N, y.T, y.nd, y.low, y.la, y.lv, y.fm, y.ob, y.tb, y.bs⟩
/-- one object is changed, by its address -/
theorem Live.put {ac : Act} {W : Wd} {h h' : Heap} {m : Str → Option Value} {reals : List Obj} (y : Live prog w ac W σ h m reals) {i : Nat} {a : Addr} {o o' : AO} {ob' : Obj} (ho : σ.vh[i]? = some o) (ha : W.adr[i]? = some a) (F : Fr ac.h₀ ac.L h' m)
    (N : News ac.h₀ ac.L h' ((a, ob') :: (W.tups ++ W.adr.zip reals).filter (fun p => decide (p.1 ≠ a)))) (hr : RO prog w W ob' o') (ht : ∀ P ps, o' = .tab P ps → a = P := by nofun) : Lives prog w ac W ⟨σ.fm, σ.vh.set i o'⟩ h' := by
  have hl : i < reals.length := by rw [y.lv]; exact (List.getElem?_eq_some_iff.mp ho).1
  refine ⟨m, reals.set i ob', F, fun p hp => ?_, y.T, y.nd, y.low, ?_, ?_, y.fm, fun j q o2 e1 e2 => ?_, fun j P ps e => ?_, y.bs⟩
  · rcases List.mem_append.mp hp with hp | hp
    · refine N p (.tail _ (List.mem_filter.mpr ⟨List.mem_append_left _ hp, ?_⟩))
      rw [decide_eq_true_eq]
      intro z
      exact y.T p hp (z ▸ List.mem_of_getElem? ha)
    · obtain ⟨j, e1, e2⟩ := zip_mem hp
      rw [List.getElem?_set] at e2
      by_cases hj : i = j
      · subst hj
        rw [if_pos rfl, if_pos hl] at e2
        rw [ha] at e1
        have q1 := Option.some.inj e1
        have q2 := Option.some.inj e2
        have := N _ (.head _)
        rw [← q1, ← q2]; exact this
      · rw [if_neg hj] at e2
        refine N p (.tail _ (List.mem_filter.mpr ⟨List.mem_append_right _ (zip_get e1 e2), ?_⟩))
        rw [decide_eq_true_eq]
        intro z
        exact hj (nodup_idx y.nd ha (z ▸ e1))
  · rw [List.length_set]; exact y.la
  · rw [List.length_set, List.length_set]; exact y.lv
  · rw [List.getElem?_set] at e1
    rw [List.getElem?_set] at e2
    by_cases hj : i = j
    · subst hj
      rw [if_pos rfl, if_pos hl] at e1
      rw [if_pos rfl, if_pos (y.lv ▸ hl)] at e2
      cases e1; cases e2; exact hr
    · rw [if_neg hj] at e1 e2
      exact y.ob j _ _ e1 e2
  · change (σ.vh.set i o')[j]? = _ at e
    rw [List.getElem?_set] at e
    by_cases hj : i = j
    · subst hj
      rw [if_pos rfl, if_pos (y.lv ▸ hl)] at e
      cases e
      rw [← ht P ps rfl]; exact ha
    · rw [if_neg hj] at e
      exact y.tb j P ps e
theorem Live.newsAt {ac : Act} {W : Wd} {h : Heap} {m : Str → Option Value} {reals : List Obj} (y : Live prog w ac W σ h m reals) {i : Nat} {a : Addr} {ob : Obj} (ha : W.adr[i]? = some a) (hr : reals[i]? = some ob) :
    News ac.h₀ ac.L h ((a, ob) :: (W.tups ++ W.adr.zip reals).filter (fun p => decide (p.1 ≠ a))) := fun p hp => by
  rcases List.mem_cons.mp hp with rfl | hp
  · exact y.N _ (List.mem_append_right _ (zip_get ha hr))
  · exact y.N p (List.mem_filter.mp hp).1

/-- attributes -/
theorem NsR.get {W : Wd} {es : List DictEntry} {kvs : List (Str × AV)} (h : NsR W es kvs) {n : Str} : (∀ {x : AV}, kvs.lookup n = some x → ∃ v, getL n es = some (some v) ∧ VR W v x) ∧ (kvs.lookup n = none → getL n es = some none) := by
  have any : es.any (·.refKey) = false := by
    induction h with
    | nil => rfl
    | cons h1 _ _ ih => rw [List.any_cons, ih]; simp [DictEntry.refKey, h1]
  induction h with
  | nil => exact ⟨(fun e => by cases e), fun _ => rfl⟩
  | @cons e es k t y r h1 h2 h3 ih =>
    have any' : es.any (·.refKey) = false := by
      rw [List.any_cons, Bool.or_eq_false_iff] at any; exact any.2
    have ih := ih any'
    have hk : e.key.isStr n = decide (n = k) := by
      rw [h1]
      show (k == n) = _
      by_cases q : n = k
      · subst q; simp
      · rw [beq_false_of_ne (Ne.symm q)]; simp [q]
    rw [lookup_hd]
    unfold getL
    rw [List.find?_cons, hk]
    by_cases q : n = k
    · rw [if_pos q, decide_eq_true q]
      exact ⟨(fun e => by cases e; exact ⟨_, rfl, h2⟩), (fun e => by cases e)⟩
    · rw [if_neg q, decide_eq_false q, any]
      have g : getL n es = match es.find? (·.key.isStr n) with | some e => some (some e.val) | none => some none := by
        unfold getL; rw [any']; rfl
      rw [g] at ih
      exact ih
noncomputable def setKv : List (Str × AV) → Str → AV → List (Str × AV)
  | [], n, x => [(n, x)]
  | (k, v) :: r, n, x => if n = k then (k, x) :: r else (k, v) :: setKv r n x
theorem NsR.put {W : Wd} {n : Str} {hs : Int} {t : Tok} {v : Value} {x : AV} (hv : VR W v x) {es : List DictEntry} {kvs : List (Str × AV)} (h : NsR W es kvs) : NsR W (putL n hs (.str n t) v es) (setKv kvs n x) := by
  induction h with
  | nil => exact .cons rfl hv .nil
  | @cons e es k t' y r h1 h2 h3 ih =>
    have hk : e.key.isStr n = decide (n = k) := by
      rw [h1]
      show (k == n) = _
      by_cases q : n = k
      · subst q; simp
      · rw [beq_false_of_ne (Ne.symm q)]; simp [q]
    unfold putL setKv
    rw [hk]
    by_cases q : n = k
    · rw [decide_eq_true q, if_pos rfl, if_pos q]
      exact .cons h1 hv h3
    · rw [decide_eq_false q, if_neg (by simp), if_neg q]
      exact .cons h1 h2 ih
theorem setKv_len (n : Str) (x : AV) : ∀ kvs, (setKv kvs n x).length ≤ kvs.length + 1
  | [] => Nat.le_refl _
  | (k, v) :: r => by
    unfold setKv
    split
    · exact Nat.le_succ _
    · exact Nat.succ_le_succ (setKv_len n x r)
theorem NsR.len {W : Wd} {es : List DictEntry} {kvs : List (Str × AV)} (h : NsR W es kvs) : es.length = kvs.length := by
  induction h with
  | nil => rfl
  | cons _ _ _ ih => rw [List.length_cons, List.length_cons, ih]

structure AttrOk (K : Frag) (C : Addr) (n : Str) : Prop where
  plain : plainGet K C n = true
  dict : hasDictIn K C = true
  find : ∃ a, findIn K (.ref C) n = some a ∧ noGet K a = true
noncomputable def notCon : AV → Bool
  | .con _ => false
  | _ => true
theorem handed_ok {W : Wd} {v : Value} {x : AV} (h : VR W v x) (hc : notCon x = true) : handedIn v = true := by
  have h := h.inv
  cases x with
  | con u => cases hc
  | none => rw [show v = _ from h]; rfl
  | bool b => rw [show v = _ from h]; rfl
  | int _ => obtain ⟨t, h⟩ := h; rw [h]; rfl
  | str _ => obtain ⟨t, h⟩ := h; rw [h]; rfl
  | ref _ => obtain ⟨a, h, _⟩ := h; rw [h]; rfl
  | tup _ => obtain ⟨a, _, _, h, _⟩ := h; rw [h]; rfl
  | rng _ _ => obtain ⟨a, _, _, _, h, _⟩ := h; rw [h]; rfl
  | lam _ _ _ _ _ _ => obtain ⟨a, _, _, _, h, _⟩ := h; rw [h]; rfl
  | blist _ => obtain ⟨a, _, _, h, _⟩ := h; rw [h]; rfl
theorem inst_at {ac : Act} {W : Wd} {h : Heap} (Lv : Lives prog w ac W ⟨σ.fm, vh⟩ h) {i d : Nat} {C : Addr} {kvs : List (Str × AV)} {a : Addr} (hi : vh[i]? = some (.inst C d)) (hd : vh[d]? = some (.ns kvs)) (ha : W.adr[i]? = some a) :
    ∃ da es n, W.adr[d]? = some da ∧ PySem.W.InstAt h a (instObj C da) C (some (dictOf es n)) ∧ NsR W es kvs ∧ h.get? da = some (dictOf es n) := by
  obtain ⟨ob, e1, ⟨da, e2, e3⟩, _⟩ := Lv.atR hi ha
  obtain ⟨ob2, q1, ⟨es, n, q2, q3⟩, _⟩ := Lv.atR hd e2
  subst e3; subst q2
  exact ⟨da, es, n, e2, ⟨e1, rfl, rfl, q1⟩, q3, q1⟩
theorem E_Attr {e : Expr} {n : Str} {i d : Nat} {C : Addr} {kvs : List (Str × AV)} (h : TrE prog w K b c e σ (.ref i) σ1) (hi : σ1.vh[i]? = some (.inst C d)) (hd : σ1.vh[d]? = some (.ns kvs)) (hl : kvs.lookup n = some x) (ha : AttrOk K C n) (hc : notCon x = true) (hb : baseOk e = true) :
    TrE prog w K b c (.Attribute e n pos) σ x σ1 := by
  intro ac env W s Q E O ER Lv hq
  refine Attribute_any_ (h ac env W s _ E O ER Lv fun v1 W1 h1' tk1 le1 Lv1 r1 => ?_) ?_
  · obtain ⟨a1, r0, r1⟩ := r1.inv
    · rw [r0]
      obtain ⟨da, es, k, e1, I, R, _⟩ := inst_at (σ := σ1) (vh := σ1.vh) Lv1 hi hd r1
      obtain ⟨v, q1, q2⟩ := R.get.1 hl
      obtain ⟨m, F, _⟩ := Lv1.frame
      obtain ⟨at_, f1, f2⟩ := ha.find
      exact get_own (K := K) F O.kin I ha.plain ha.dict f1 f2 q1 (handed_ok q2 hc) (hq _ W1 h1' _ le1 Lv1 q2)
  · show (do
      let o ← attributeBase e n env (eval e env)
      standAt pos.atName
      let r ← holding [o] (getAttr o n true)
      letTemporaryGo e o r
      pure r) = _
    rw [base_plain hb]
structure SetOk (K : Frag) (C : Addr) (n : Str) : Prop where
  set : findIn K (.ref C) "__setattr__" = some (some (.builtin "object.__setattr__"))
  plain : plainOver K C = true
  taker : takerIn K C n = some none
  dict : hasDictIn K C = true
theorem S_AssignAttr {e value : Expr} {n : Str} {p : Pos} {i d : Nat} {C : Addr} {kvs : List (Str × AV)} (h1 : TrE prog w K b c value σ y σ1) (h2 : TrE prog w K b c e σ1 (.ref i) σ2) (hi : σ2.vh[i]? = some (.inst C d)) (hd : σ2.vh[d]? = some (.ns kvs)) (hs : SetOk K C n) (hz : kvs.length ≤ 900) (hcomp : isComp value = false) :
    TrS prog w K b c (.Assign [.Attribute e n p] value pos) σ .next ⟨σ2.fm, σ2.vh.set d (.ns (setKv kvs n y))⟩ := by
  intro ac env W s Q E O ER Lv hq
  refine plainObj_wpAny_Assign_Attribute (h1 ac env W s _ E O ER Lv fun v1 W1 h1' tk1 le1 Lv1 r1 => ?_) (swaps_none hcomp)
  refine h2 ac env W1 _ _ E O (ER.mono le1) Lv1 fun v2 W2 h2' tk2 le2 Lv2 r2 => ?_
  obtain ⟨a2, r0, r2⟩ := r2.inv
  · rw [r0]
    obtain ⟨da, es, k, e1, I, R, g⟩ := inst_at (σ := σ2) (vh := σ2.vh) Lv2 hi hd r2
    obtain ⟨m, reals, y2⟩ := Lv2
    have hlr : d < reals.length := by rw [y2.lv]; exact (List.getElem?_eq_some_iff.mp hd).1
    have hob : reals[d]? = some (dictOf es k) := by
      have e2 : reals[d]? = some reals[d] := List.getElem?_eq_getElem hlr
      have := (y2.N _ (List.mem_append_right _ (zip_get e1 e2))).1
      rw [g] at this
      rw [e2, Option.some.inj this]
    refine PySem.W.set_dict (K := K) (L := ac.L) (h₀ := ac.h₀) (n := k) y2.F O.kin (y2.newsAt e1 hob) I rfl hs.set hs.plain hs.taker hs.dict ?_ rfl (.head fun q hq' => ?_) ?_ fun h' F' N' => ?_
    · cases q : kvs.lookup n with
      | none => rw [R.get.2 q]; rfl
      | some z => obtain ⟨v, q1, _⟩ := R.get.1 q; rw [q1]; rfl
    · have := (List.mem_filter.mp hq').2
      simpa using this
    · have := (R.put (n := n) (hs := PyData.keyHash w.params n) (t := tk2 + 1) (r1.mono le2)).len
      rw [this]
      have := setKv_len n y kvs
      omega
    · exact hq _ W2 h' _ (le1.trans le2) (y2.put hd e1 F' N' ⟨_, _, rfl, R.put (r1.mono le2)⟩) .next

/-- methods -/
structure MethOk (K : Frag) (C : Addr) (n : Str) (f : Addr) : Prop where
  plain : plainGet K C n = true
  find : findIn K (.ref C) n = some (some (.ref f))
  fn : isFn K (.ref f) = true
theorem M_inst {n : Str} {i d : Nat} {C f : Addr} {kvs : List (Str × AV)} (hi : vh[i]? = some (.inst C d)) (hd : vh[d]? = some (.ns kvs)) (hl : kvs.lookup n = none) (hm : MethOk K C n f) : TrM prog w K (.ref i) n vh (.ref f) := by
  intro b ac W fm s pl Q E v O Lv hv hq
  obtain ⟨a, hv, ha⟩ := hv.inv
  · rw [hv] at hq ⊢
    obtain ⟨da, es, k, e1, I, R, _⟩ := inst_at (σ := ⟨fm, vh⟩) Lv hi hd ha
    obtain ⟨m, F, _⟩ := Lv.frame
    exact method_inst (K := K) F O.kin I hm.plain hm.find hm.fn (R.get.2 hl) hq
theorem M_list {n : Str} {id : String} {l : Nat} {xs : List AV} (hl : vh[l]? = some (.list xs)) (slot : Slot "list" n id) (hty : typeOf (.builtin id) = pure (.type "method_descriptor")) : TrM prog w K (.ref l) n vh (.builtin id) := by
  intro b ac W fm s pl Q E v O Lv hv hq
  obtain ⟨a, hv, ha⟩ := hv.inv
  · rw [hv] at hq ⊢
    obtain ⟨lo, e1, ⟨vs, k, e2, e3⟩, _⟩ := Lv.atR (σ := ⟨fm, vh⟩) hl ha
    subst e2
    exact getMethod_builtin ⟨_, e1, rfl⟩ PySem.F.plainAttrs_list slot hty (fun a e => by cases e; exact ⟨_, e1, rfl⟩) hq
theorem M_idict {n : Str} {id : String} {l : Nat} {kvs : List (Int × AV)} (hl : vh[l]? = some (.idict kvs)) (slot : Slot "dict" n id) (hty : typeOf (.builtin id) = pure (.type "method_descriptor")) : TrM prog w K (.ref l) n vh (.builtin id) := by
  intro b ac W fm s pl Q E v O Lv hv hq
  obtain ⟨a, hv, ha⟩ := hv.inv
  · rw [hv] at hq ⊢
    obtain ⟨lo, e1, ⟨ps, e2, e3⟩, _⟩ := Lv.atR (σ := ⟨fm, vh⟩) hl ha
    have hd := Heap.dictOf_iff.mpr ⟨lo, e1, e2⟩
    exact getMethod_builtin hd.typeIs PySem.F.plainAttrs_dict slot hty hd.mapOf.noDict hq
theorem M_str {n : Str} {id : String} {t : Str} (slot : Slot "str" n id) (hty : typeOf (.builtin id) = pure (.type "method_descriptor")) : TrM prog w K (.str t) n vh (.builtin id) := by
  intro b ac W fm s pl Q E v O Lv hv hq
  obtain ⟨tk, hv⟩ := hv.inv
  · rw [hv] at hq ⊢
    exact getMethod_builtin (typeIs_str s t tk) PySem.F.plainAttrs_str slot hty (fun a e => by cases e) hq
end

noncomputable def notSlice (e : Expr) : Bool := !(e.ctorIdx.beq 26)
theorem subscripted_plain {sl : Expr} {o i : Value} (h : notSlice sl = true) : subscripted sl false o i = operate [o, i] (getItem o i) := by
  cases sl <;> first | rfl | cases h

noncomputable def pickA {α : Type} (is : List Nat) (xs : List α) : List α := is.filterMap (xs[·]?)
theorem VRs.pick {W : Wd} {vs : List Value} {xs : List AV} (h : VRs W vs xs) (is : List Nat) : VRs W (pickA is vs) (pickA is xs) := by
  induction is with
  | nil => exact .nil
  | cons i r ih =>
    unfold pickA at ih ⊢
    rw [List.filterMap_cons, List.filterMap_cons]
    cases q : xs[i]? with
    | none =>
      have : vs[i]? = none := by
        rw [List.getElem?_eq_none_iff] at q ⊢
        rw [h.length]; exact q
      rw [this]; exact ih
    | some x =>
      obtain ⟨v, h1, h2⟩ := h.get q
      rw [h1]; exact .cons h2 ih
noncomputable def sliceIs (lo hi st : Option Int) (n : Nat) : List Nat := sliceRange (sliceBounds lo hi st n).1 (sliceBounds lo hi st n).2.1 (sliceBounds lo hi st n).2.2
theorem slicePick_eq (vs : List Value) (lo hi st : Option Int) : slicePick vs.toArray lo hi st = (pickA (sliceIs lo hi st vs.length) vs).toArray := by
  unfold slicePick pickA sliceIs
  simp

theorem seqIndex_nat {k : Int} {n : Nat} (h0 : 0 ≤ k) (h : k < n) : seqIndex? k n = some k.toNat := by
  have : ¬ k < 0 := by omega
  simp [seqIndex?, this, h0, h]
/-- a part of a slice -/
noncomputable def partA (x : AV) : Option (Option Int) := (x.none?.map fun _ => none).or (x.int?.map some)
theorem part_ok {W : Wd} {v : Value} {x : AV} {p : Option Int} (h : VR W v x) (hp : partA x = some p) : IsPart v p := by
  rcases or_of hp with hp | hp
  · obtain ⟨_, g, e⟩ := map_of hp
    rw [AV.none?_of g] at h
    rw [show v = _ from h.inv, ← e]
    exact .none
  · obtain ⟨i, g, e⟩ := map_of hp
    obtain ⟨t, q⟩ := h.of_int g
    rw [q, ← e]
    exact .int _ _

section
variable {prog : Program} {w : World} {K : Frag} {b : Nat} {c : Cx} {σ σ1 σ2 σ3 σ4 : AS} {x y z : AV} {pos apos : Pos} {vh : List AO}

theorem E_SubList {value sl : Expr} {l : Nat} {k : Int} {xs : List AV} (h1 : TrE prog w K b c value σ (.ref l) σ1) (h2 : TrE prog w K b c sl σ1 (.int k) σ2) (hl : σ2.vh[l]? = some (.list xs)) (h0 : 0 ≤ k) (hk : k < 2 ^ 63) (hx : xs[k.toNat]? = some x) (hs : notSlice sl = true) :
    TrE prog w K b c (.Subscript value sl pos) σ x σ2 := by
  intro ac env W s Q E O ER Lv hq
  refine PyProof.Rows.Subscript_ (h1 ac env W s _ E O ER Lv fun v1 W1 h1' tk1 le1 Lv1 r1 => ?_)
  refine h2 ac env W1 _ _ E O (ER.mono le1) Lv1 fun v2 W2 h2' tk2 le2 Lv2 r2 => ?_
  obtain ⟨a1, q1, r1⟩ := r1.inv
  obtain ⟨t2, q2⟩ := r2.inv
  · rw [q1, q2]
    obtain ⟨lo, e1, ⟨vs, n, e2, e3⟩, _⟩ := Lv2.atR hl (le2.1 _ _ r1)
    subst e2
    obtain ⟨v, hv, rv⟩ := e3.get hx
    have hil : Heap.IsList h2' _ vs.toArray := ⟨_, e1, rfl, _, rfl⟩
    exact tail_any hil.typeIs slot_list_getitem.lookup (wpAny_getItem_list hil h0 hk (by simpa using hv) (hq _ W2 h2' tk2 (le1.trans le2) Lv2 rv)) (subscripted_plain hs)
theorem E_SubTup {value sl : Expr} {k : Int} {xs : List AV} (h1 : TrE prog w K b c value σ (.tup xs) σ1) (h2 : TrE prog w K b c sl σ1 (.int k) σ2) (h0 : 0 ≤ k) (hk : k < 2 ^ 63) (hx : xs[k.toNat]? = some x) (hs : notSlice sl = true) :
    TrE prog w K b c (.Subscript value sl pos) σ x σ2 := by
  intro ac env W s Q E O ER Lv hq
  refine PyProof.Rows.Subscript_ (h1 ac env W s _ E O ER Lv fun v1 W1 h1' tk1 le1 Lv1 r1 => ?_)
  refine h2 ac env W1 _ _ E O (ER.mono le1) Lv1 fun v2 W2 h2' tk2 le2 Lv2 r2 => ?_
  obtain ⟨a, vs, en, q1, hm, hvs⟩ := (r1.mono le2).inv
  obtain ⟨t2, q2⟩ := r2.inv
  · rw [q1, q2]
    obtain ⟨v, hv, rv⟩ := hvs.get hx
    have hlt : k.toNat < xs.length := (List.getElem?_eq_some_iff.mp hx).1
    have hj : seqIndex? k vs.length = some k.toNat := seqIndex_nat h0 (by rw [hvs.length]; omega)
    exact item_tupleT (l := vs) ⟨_, Lv2.tup hm, rfl, _, rfl⟩ (by omega) hk hj hv (hq _ W2 h2' tk2 (le1.trans le2) Lv2 rv) (subscripted_plain hs)
theorem E_SubStr {value sl : Expr} {k : Int} {t : Str} {n : Nat} (h1 : TrE prog w K b c value σ (.str t) σ1) (h2 : TrE prog w K b c sl σ1 (.int k) σ2) (h0 : 0 ≤ k) (hk : k < 2 ^ 63) (hx : t.cps[k.toNat]? = some n) (hs : notSlice sl = true) :
    TrE prog w K b c (.Subscript value sl pos) σ (.str ⟨#[n]⟩) σ2 := by
  intro ac env W s Q E O ER Lv hq
  refine PyProof.Rows.Subscript_ (h1 ac env W s _ E O ER Lv fun v1 W1 h1' tk1 le1 Lv1 r1 => ?_)
  refine h2 ac env W1 _ _ E O (ER.mono le1) Lv1 fun v2 W2 h2' tk2 le2 Lv2 r2 => ?_
  obtain ⟨t1, q1⟩ := r1.inv
  obtain ⟨t2, q2⟩ := r2.inv
  rw [q1, q2]
  have hlt : k.toNat < t.cps.size := (Array.getElem?_eq_some_iff.mp hx).1
  have hc : (seqIndex? k t.length).bind (t.cps[·]?) = some n := by
    rw [seqIndex_nat h0 (by show k < (t.cps.size : Int); omega)]
    exact hx
  refine tail_any (typeIs_str _ t _) PySem.F.slot_str_getitem.lookup (PyProof.Rows.getItem_str ?_ hc (hq _ W2 h2' _ (le1.trans le2) Lv2 (.str _ _))) (subscripted_plain hs)
  rw [Bool.or_eq_false_iff, decide_eq_false_iff_not, decide_eq_false_iff_not]
  omega

/-- a part of a slice, evaluated -/
abbrev TrP (prog : Program) (w : World) (K : Frag) (b : Nat) (c : Cx) (e : Option Expr) (σ : AS) (x : AV) (σ' : AS) : Prop := Tr prog w K VR b c (fun env => evalPart e env) σ x σ'
theorem P_none : TrP prog w K b c none σ .none σ := by
  intro ac env W s Q E O ER Lv hq
  exact wpAny_pure (hq _ W s.heap s.toks W.le_refl Lv .none)
theorem P_some {e : Expr} (h : TrE prog w K b c e σ x σ1) : TrP prog w K b c (some e) σ x σ1 := h

theorem sub_slice {value : Expr} {lower upper step : Option Expr} {p : Pos} {o i : Value} {A : Around} {E : Value → Shared → Prop} {s : Shared} {Q : Value → Shared → Prop} {T id : String} (hT : s.TypeIs o T)
    (hl : typeLookup (.type T) "__getitem__" = pure (some (.builtin id))) (hg : wpAny (model prog w) A (getItem o i) Q E s) : wpAny (model prog w) A (subscriptTail value (.Slice lower upper step p) o i) Q E s := by
  cases step with
  | none => exact tail_any (ops := [i, o]) hT hl hg rfl
  | some e => exact tail_any (ops := [o, i]) hT hl hg rfl
theorem E_SliceList {value : Expr} {lower upper step : Option Expr} {p : Pos} {l : Nat} {xs : List AV} {xl xu xst : AV} {lo hi st : Option Int} (h1 : TrE prog w K b c value σ (.ref l) σ1)
    (hlo : TrP prog w K b c lower σ1 xl σ2) (hup : TrP prog w K b c upper σ2 xu σ3) (hst : TrP prog w K b c step σ3 xst σ4) (pl : partA xl = some lo) (pu : partA xu = some hi) (ps : partA xst = some st) (h0 : st ≠ some 0)
    (hl : σ4.vh[l]? = some (.list xs)) (hsz : xs.length ≤ 1000000) : TrE prog w K b c (.Subscript value (.Slice lower upper step p) pos) σ (.ref σ4.vh.length) ⟨σ4.fm, σ4.vh ++ [.list (pickA (sliceIs lo hi st xs.length) xs)]⟩ := by
  intro ac env W s Q E O ER Lv hq
  refine PyProof.Rows.Subscript_ (h1 ac env W s _ E O ER Lv fun v1 W1 h1' tk1 le1 Lv1 r1 => ?_)
  refine wpAny_Slice ?_
  refine hlo ac env W1 _ _ E O (ER.mono le1) Lv1 fun vl W2 h2' tk2 le2 Lv2 r2 => ?_
  refine hup ac env W2 _ _ E O (ER.mono (le1.trans le2)) Lv2 fun vu W3 h3' tk3 le3 Lv3 r3 => ?_
  refine hst ac env W3 _ _ E O (ER.mono ((le1.trans le2).trans le3)) Lv3 fun vst W4 h4' tk4 le4 Lv4 r4 => ?_
  have le := ((le1.trans le2).trans le3).trans le4
  obtain ⟨a1, q1, r1⟩ := r1.inv
  · rw [q1]
    obtain ⟨ob, e1, ⟨vs, n, e2, e3⟩, _⟩ := Lv4.atR hl (((le2.trans le3).trans le4).1 _ _ r1)
    subst e2
    have L5 := Lv4.push { cls := .type "slice", data := .fields #[vl, vu, vst] }
    have hil : Heap.IsList (h4'.push { cls := .type "slice", data := .fields #[vl, vu, vst] }) _ vs.toArray := ⟨_, Heap.get?_push_of_some _ e1, rfl, _, rfl⟩
    refine sub_slice hil.typeIs slot_list_getitem.lookup (wpAny_getItem_list_slice (lo := lo) (hi := hi) (st := st) hil (Heap.IsSliceOf.new _ _ _ _) (part_ok r2 pl) (part_ok r3 pu) (part_ok r4 ps) h0 ?_ (by rw [List.size_toArray, e3.length, sizeLine_eq]; omega))
    rw [slicePick_eq]
    have hlow : 1 < (h4'.push { cls := .type "slice", data := .fields #[vl, vu, vst] }).objs.size := L5.size_low O
    refine hq _ (W4.add _) _ tk4 (le.trans (W4.le_add _)) (L5.add (fun _ _ e => Heap.get?_push_of_some _ e) (get_size_none _) (Heap.get?_push_size _ rfl) ⟨_, 0, rfl, ?_⟩ hlow) (.ref ?_)
    · rw [← e3.length]
      exact (e3.pick _).mono (W4.le_add _)
    · rw [← Lv4.len]; exact W4.add_get _
/-- text[i:] -/
theorem E_SliceStr {value : Expr} {lower : Option Expr} {p : Pos} {t : Str} {k : Int} (h1 : TrE prog w K b c value σ (.str t) σ1) (hlo : TrP prog w K b c lower σ1 (.int k) σ2) (hsz : ((slicePicked t (some (k, 0)) none none).filterMap (t.cps[·]?)).length ≤ sizeLine) :
    TrE prog w K b c (.Subscript value (.Slice lower none none p) pos) σ (.str (if ((slicePicked t (some (k, 0)) none none).length == t.length) = true then t else ⟨((slicePicked t (some (k, 0)) none none).filterMap (t.cps[·]?)).toArray⟩)) σ2 := by
  intro ac env W s Q E O ER Lv hq
  refine PyProof.Rows.Subscript_ (h1 ac env W s _ E O ER Lv fun v1 W1 h1' tk1 le1 Lv1 r1 => ?_)
  refine wpAny_Slice ?_
  refine hlo ac env W1 _ _ E O (ER.mono le1) Lv1 fun vl W2 h2' tk2 le2 Lv2 r2 => ?_
  refine wpAny_pure (wpAny_pure ?_)
  have le := le1.trans le2
  obtain ⟨tt, q1⟩ := r1.inv
  obtain ⟨tk, q2⟩ := r2.inv
  · · rw [q1, q2]
      refine sub_slice (typeIs_str _ t tt) PySem.F.slot_str_getitem.lookup (wpAny_getItem_str_slice (l := some (k, tk)) (u := none) (st := none) ⟨_, Heap.get?_push_size _ rfl, rfl, rfl⟩ rfl ?_)
      have L5 := Lv2.push { cls := .type "slice", data := .fields #[.int k tk, .none, .none] }
      have e : slicePicked t (some (k, tk)) none none = slicePicked t (some (k, 0)) none none := rfl
      unfold sliceMade
      rw [e]
      simp only [Option.map_none, Option.getD_none, beq_self_eq_true, Bool.true_and]
      by_cases q : ((slicePicked t (some (k, 0)) none none).length == t.length) = true
      · rw [if_pos q] at hq ⊢
        exact hq _ W2 _ _ le L5 (.str _ _)
      · rw [if_neg q] at hq ⊢
        refine ⟨?_, hq _ W2 _ _ le L5 (.str _ _)⟩
        show ((slicePicked t (some (k, 0)) none none).filterMap (t.cps[·]?)).toArray.size ≤ sizeLine
        rw [List.size_toArray]; exact hsz
end

theorem VRs.ints {W : Wd} {ns : List Int} : ∀ {vs : List Value}, VRs W vs (ns.map AV.int) → IntsAre vs ns := by
  induction ns with
  | nil => intro vs h; rw [h.inv]; exact .nil
  | cons i ns ih =>
    intro vs h
    obtain ⟨v, us, e, h1, h2⟩ := h.inv
    obtain ⟨t, q⟩ := h1.inv
    rw [e, q]
    exact .cons _ _ (ih h2)
theorem VRs.strs {W : Wd} {ys : List Str} : ∀ {vs : List Value}, VRs W vs (ys.map AV.str) → StrsAre vs ys := by
  induction ys with
  | nil => intro vs h; rw [h.inv]; exact .nil
  | cons i ns ih =>
    intro vs h
    obtain ⟨v, us, e, h1, h2⟩ := h.inv
    obtain ⟨t, q⟩ := h1.inv
    rw [e, q]
    exact .cons _ _ (ih h2)
theorem VRs.bools {W : Wd} {bs : List Bool} : ∀ {vs : List Value}, VRs W vs (bs.map AV.bool) → LSm.BoolsAre vs bs := by
  induction bs with
  | nil => intro vs h; rw [h.inv]; exact .nil
  | cons i ns ih =>
    intro vs h
    obtain ⟨v, us, e, h1, h2⟩ := h.inv
    rw [e, show v = _ from h1.inv]
    exact .cons _ (ih h2)

section
variable {prog : Program} {w : World} {K : Frag} {b : Nat} {x y z : AV} {vh : List AO}

theorem C_len_list {l : Nat} {xs : List AV} (hl : vh[l]? = some (.list xs)) (hz : xs.length ≤ 1000000) : TrC prog w K b (.builtin "len") [.ref l] vh (.int xs.length) vh := by
  intro ac W fm s Q E vs O Lv hv hq
  obtain ⟨v, rfl, h1⟩ := hv.inv1
  obtain ⟨a, rfl, ha⟩ := h1.inv
  · · obtain ⟨ob, e1, ⟨us, n, e2, e3⟩, _⟩ := Lv.atR (σ := ⟨fm, vh⟩) hl ha
      subst e2
      refine PyProof.Rows.len_list (items := us.toArray) ⟨_, e1, rfl, _, rfl⟩ (by rw [List.size_toArray, e3.length]; omega) ?_
      rw [List.size_toArray, e3.length]
      exact hq _ W _ _ W.le_refl Lv (.int _ _)
theorem C_len_str {t : Str} (hz : t.length ≤ 1000000) : TrC prog w K b (.builtin "len") [.str t] vh (.int t.length) vh := by
  intro ac W fm s Q E vs O Lv hv hq
  obtain ⟨v, rfl, h1⟩ := hv.inv1
  obtain ⟨a, rfl⟩ := h1.inv
  exact PyProof.Rows.len_str (by omega) (hq _ W _ _ W.le_refl Lv (.int _ _))
theorem C_min {i j : Int} : TrC prog w K b (.builtin "min") [.int i, .int j] vh (.int (if j < i then j else i)) vh := by
  intro ac W fm s Q E vs O Lv hv hq
  obtain ⟨v, u, rfl, h1, h2⟩ := hv.inv2
  obtain ⟨t, rfl⟩ := h1.inv
  obtain ⟨t', rfl⟩ := h2.inv
  · · refine min_two_ints O.handled fun h' tk hk => ?_
      by_cases q : j < i
      · rw [if_pos q] at hq ⊢; exact hq _ W _ _ W.le_refl (Lv.grow hk) (.int _ _)
      · rw [if_neg q] at hq ⊢; exact hq _ W _ _ W.le_refl (Lv.grow hk) (.int _ _)
theorem C_max {i j : Int} : TrC prog w K b (.builtin "max") [.int i, .int j] vh (.int (if j > i then j else i)) vh := by
  intro ac W fm s Q E vs O Lv hv hq
  obtain ⟨v, u, rfl, h1, h2⟩ := hv.inv2
  obtain ⟨t, rfl⟩ := h1.inv
  obtain ⟨t', rfl⟩ := h2.inv
  · · refine max_two_ints O.handled fun h' tk hk => ?_
      by_cases q : j > i
      · rw [if_pos q] at hq ⊢; exact hq _ W _ _ W.le_refl (Lv.grow hk) (.int _ _)
      · rw [if_neg q] at hq ⊢; exact hq _ W _ _ W.le_refl (Lv.grow hk) (.int _ _)
theorem C_ord {n : Nat} : TrC prog w K b (.builtin "ord") [.str ⟨#[n]⟩] vh (.int n) vh := by
  intro ac W fm s Q E vs O Lv hv hq
  obtain ⟨v, rfl, h1⟩ := hv.inv1
  obtain ⟨a, rfl⟩ := h1.inv
  exact ord_of_one rfl (hq _ W _ _ W.le_refl Lv (.int _ _))
theorem C_abs {i : Int} : TrC prog w K b (.builtin "abs") [.int i] vh (.int (if i < 0 then -i else i)) vh := by
  intro ac W fm s Q E vs O Lv hv hq
  obtain ⟨v, rfl, h1⟩ := hv.inv1
  obtain ⟨a, rfl⟩ := h1.inv
  exact call_abs_int fun u tk => hq _ W _ _ W.le_refl Lv (.int _ _)
theorem C_sum {l : Nat} {ns : List Int} (hl : vh[l]? = some (.list (ns.map .int))) : TrC prog w K b (.builtin "sum") [.ref l] vh (.int ns.sum) vh := by
  intro ac W fm s Q E vs O Lv hv hq
  obtain ⟨v, rfl, h1⟩ := hv.inv1
  obtain ⟨a, rfl, ha⟩ := h1.inv
  · · obtain ⟨ob, e1, ⟨us, n, e2, e3⟩, _⟩ := Lv.atR (σ := ⟨fm, vh⟩) hl ha
      subst e2
      obtain ⟨m, reals, y⟩ := Lv
      exact sumK O.handled y.F y.N (vs := us) ⟨_, e1, rfl, _, rfl⟩ e3.ints fun h' tk t' F N => hq _ W _ _ W.le_refl (y.same F N) (.int _ _)
theorem C_all {l : Nat} {bs : List Bool} (hl : vh[l]? = some (.list (bs.map .bool))) : TrC prog w K b (.builtin "all") [.ref l] vh (.bool (bs.all id)) vh := by
  intro ac W fm s Q E vs O Lv hv hq
  obtain ⟨v, rfl, h1⟩ := hv.inv1
  obtain ⟨a, rfl, ha⟩ := h1.inv
  · · obtain ⟨ob, e1, ⟨us, n, e2, e3⟩, _⟩ := Lv.atR (σ := ⟨fm, vh⟩) hl ha
      subst e2
      obtain ⟨m, reals, y⟩ := Lv
      exact LSm.all_bools y.F y.N O.handled (vs := us) ⟨_, e1, rfl, _, rfl⟩ e3.bools fun h' tk F N => hq _ W _ _ W.le_refl (y.same F N) (.bool _)
theorem C_range1 {n : Int} : TrC prog w K b (.type "range") [.int n] vh (.rng 0 n) vh := by
  intro ac W fm s Q E vs O Lv hv hq
  obtain ⟨v, rfl, h1⟩ := hv.inv1
  obtain ⟨t, rfl⟩ := h1.inv
  exact call_range_1 (hq _ _ _ _ (W.le_addT _) (Lv.addT (fun _ _ e => Heap.get?_push_of_some _ e) (get_size_none _) (Heap.get?_push_size _ rfl)) (.rng (t := s.toks) (u := t) (v := s.toks + 1) (.head _)))
theorem C_range2 {m n : Int} : TrC prog w K b (.type "range") [.int m, .int n] vh (.rng m n) vh := by
  intro ac W fm s Q E vs O Lv hv hq
  obtain ⟨v, u, rfl, h1, h2⟩ := hv.inv2
  obtain ⟨t, rfl⟩ := h1.inv
  obtain ⟨u, rfl⟩ := h2.inv
  exact call_range_2 (hq _ _ _ _ (W.le_addT _) (Lv.addT (fun _ _ e => Heap.get?_push_of_some _ e) (get_size_none _) (Heap.get?_push_size _ rfl)) (.rng (t := t) (u := u) (v := s.toks) (.head _)))
theorem C_list {l : Nat} {xs : List AV} (hl : vh[l]? = some (.list xs)) (hz : xs.length ≤ 1000000) : TrC prog w K b (.type "list") [.ref l] vh (.ref vh.length) (vh ++ [.list xs]) := by
  intro ac W fm s Q E vs O Lv hv hq
  obtain ⟨v, rfl, h1⟩ := hv.inv1
  obtain ⟨a, rfl, ha⟩ := h1.inv
  · · obtain ⟨ob, e1, ⟨us, n, e2, e3⟩, _⟩ := Lv.atR (σ := ⟨fm, vh⟩) hl ha
      subst e2
      refine call_list_seq (items := us.toArray) _ (.inl rfl) e1 rfl rfl (fun h' c' hk hD => ?_) (by rw [List.size_toArray, e3.length, sizeLine_eq]; omega)
      refine hq _ (W.add s.heap.objs.size) _ _ (W.le_add _) (Lv.add hk (get_size_none _) hD ⟨us, c', rfl, e3.mono (W.le_add _)⟩ (Lv.size_low O)) (.ref ?_)
      have := Lv.len
      rw [show vh.length = W.adr.length from this.symm]; exact W.add_get _
theorem C_append {l : Nat} {xs : List AV} (hl : vh[l]? = some (.list xs)) (hz : xs.length ≤ 1000000) : TrC prog w K b (.builtin "list.append") [.ref l, x] vh .none (vh.set l (.list (xs ++ [x]))) := by
  intro ac W fm s Q E vs O Lv hv hq
  obtain ⟨v, u, rfl, h1, h2⟩ := hv.inv2
  obtain ⟨a, rfl, ha⟩ := h1.inv
  · · · obtain ⟨ob, e1, ⟨us, n, e2, e3⟩, _⟩ := Lv.atR (σ := ⟨fm, vh⟩) hl ha
        subst e2
        refine wpAny_list_append_plain (items := us.toArray) ⟨n, e1⟩ (fun h' hpl hs => ?_) (by rw [List.size_toArray, e3.length, sizeLine_eq]; omega)
        obtain ⟨n', e4⟩ := hpl
        refine hq _ W h' s.toks W.le_refl (Lv.upd (σ := ⟨fm, vh⟩) hl ha (fun b o hb e => (hs.2 b hb).trans e) e4 ⟨us ++ [_], n', by simp, e3.append (.cons h2 .nil)⟩) .none
end

noncomputable def setIdict (kvs : List (Int × AV)) (k : Int) (x : AV) : List (Int × AV) := if kvs.any (fun kv => kv.1 = k) then kvs.map (fun kv => if kv.1 = k then (kv.1, x) else kv) else kvs ++ [(k, x)]
theorem KVR.any {W : Wd} {es : List (Int × Value)} {r : List (Int × AV)} (h : KVR W es r) (k : Int) : es.any (fun kv => kv.1 = k) = r.any (fun kv => kv.1 = k) := by
  induction h with
  | nil => rfl
  | cons _ _ ih => rw [List.any_cons, List.any_cons, ih]
theorem KVR.len {W : Wd} {Κ : Type} {es : List (Κ × Value)} {r : List (Κ × AV)} (h : KVR W es r) : es.length = r.length := by
  induction h with
  | nil => rfl
  | cons _ _ ih => rw [List.length_cons, List.length_cons, ih]
theorem KVR.stored {W : Wd} {es : List (Int × Value)} {r : List (Int × AV)} (h : KVR W es r) {k : Int} {v : Value} {x : AV} (hv : VR W v x) : KVR W (PySem.stored es k v) (setIdict r k x) := by
  unfold PySem.stored setIdict
  rw [h.any]
  split
  · rename_i hh
    clear hh
    induction h with
    | nil => exact .nil
    | @cons k' v' x' es r h1 _ ih =>
      rw [List.map_cons, List.map_cons]
      by_cases q : k' = k
      · simp only [if_pos q]; exact .cons hv ih
      · simp only [if_neg q]; exact .cons h1 ih
  · rename_i hh
    clear hh
    induction h with
    | nil => exact .cons hv .nil
    | cons h1 _ ih => exact .cons h1 ih

section
variable {prog : Program} {w : World} {A : Around} {E : Value → Shared → Prop} {s : Shared}
theorem setItem_exact {l : Addr} {vs : List Value} {n : Nat} {k : Int} {t : Tok} {v : Value} {Q : Unit → Shared → Prop} (ho : s.heap.get? l = some (PySem.W.listOf vs.toArray n))
    (h0 : 0 ≤ k) (hfit : k < 2 ^ 63) (hn : k < vs.length)
    (hQ : ∀ h' n', h'.get? l = some (PySem.W.listOf (vs.set k.toNat v).toArray n') → Heap.SameBut l s.heap h' → Q () { s with heap := h' }) :
    wpAny (model prog w) A (setItem (.ref l) (.int k t) v) Q E s := by
  have hl : s.heap.IsList l vs.toArray := ⟨_, ho, rfl, _, rfl⟩
  unfold setItem
  try with_reducible refine wpAny_holding ?_
  first | refine wpAny_bind (wpAny_pure ?_) | skip
  refine wpAny_bind (wpAny_sequenceKey hl.typeIs (by decide) ?_)
  refine wpAny_bind (wpAny_callSpecial?_slot (name := Str.ofString "__setitem__") hl.typeIs slot_list_setitem
    (wpAny_call_entry slot_list_setitem hl.typeIs entry_list_setitem ?_ (args_list_setitem _ _ _)))
  show wpAny _ _ (Builtin.List.listSubscript? (.int k t) >>= _) _ _ s
  refine wpAny_bind (wpAny_listSubscript_int (fitsIndex_of h0 hfit) ?_)
  clear hfit
  obtain ⟨j, rfl⟩ := Int.eq_ofNat_of_zero_le h0
  have hj : j < vs.toArray.size := by rw [List.size_toArray]; omega
  have hx' : vs.toArray[j]? = some vs.toArray[j] := Array.getElem?_eq_getElem hj
  show wpAny _ _ ((seqItemAt l j >>= fun r => pure (r.map (j, ·))) >>= _) _ _ s
  refine wpAny_bind (wpAny_bind (wpAny_seqItemAt ho rfl (wpAny_pure ?_)))
  rw [hx']
  show wpAny _ _ (setSeqItemAt l j v >>= _) _ _ s
  have hfin : (s.heap.update l (Obj.mapSeq (·.setIfInBounds j v))).get? l = some (PySem.W.listOf (vs.set j v).toArray (if (vs.toArray.setIfInBounds j v).size == vs.toArray.size then n else n + 1)) := by
    have := Heap.get?_update_self (Obj.mapSeq (·.setIfInBounds j v)) ho (by rfl)
    rw [this]
    show some ({ cls := .type "list", data := .seq (vs.toArray.setIfInBounds j v) _ } : Obj) = _
    simp only [List.setIfInBounds_toArray]
  refine wpAny_bind (wpAny_setSeqItemAt ho rfl ?_)
  first
    | exact wpAny_bind (wpAny_pure (wpAny_pure ⟨.none, rfl, wpAny_pure (hQ _ _ hfin (Heap.SameBut.update ..))⟩))
    | exact wpAny_pure ⟨.none, rfl, wpAny_pure (hQ _ _ hfin (Heap.SameBut.update ..))⟩
end

theorem OVR.getD {W : Wd} {o : Option Value} {p : Option AV} (h : OVR W o p) {v : Value} {x : AV} (q : VR W v x) : VR W (o.getD v) (p.getD x) := by
  cases h with
  | none => exact q
  | some t => exact t
section
variable {prog : Program} {w : World} {K : Frag} {b : Nat} {c : Cx} {σ σ1 σ2 σ3 σ4 : AS} {x y z : AV} {pos apos : Pos} {vh : List AO}

theorem S_AssignSubList {o i value : Expr} {p : Pos} {l : Nat} {k : Int} {xs : List AV} (h1 : TrE prog w K b c value σ y σ1) (h2 : TrE prog w K b c o σ1 (.ref l) σ2) (h3 : TrE prog w K b c i σ2 (.int k) σ3) (hl : σ3.vh[l]? = some (.list xs)) (h0 : 0 ≤ k) (hk : k < xs.length) (hfit : k < 2 ^ 63) (hc : isComp value = false) :
    TrS prog w K b c (.Assign [.Subscript o i p] value pos) σ .next ⟨σ3.fm, σ3.vh.set l (.list (xs.set k.toNat y))⟩ := by
  intro ac env W s Q E O ER Lv hq
  refine wpAny_Assign_Subscript (h1 ac env W s _ E O ER Lv fun v1 W1 h1' tk1 le1 Lv1 r1 => ?_) (swaps_none hc)
  refine h2 ac env W1 _ _ E O (ER.mono le1) Lv1 fun v2 W2 h2' tk2 le2 Lv2 r2 => ?_
  refine h3 ac env W2 _ _ E O (ER.mono (le1.trans le2)) Lv2 fun v3 W3 h3' tk3 le3 Lv3 r3 => ?_
  obtain ⟨a2, q2, r2⟩ := r2.inv
  obtain ⟨t3, q3⟩ := r3.inv
  · rw [q2, q3]
    obtain ⟨ob, e1, ⟨vs, n, e2, e3⟩, _⟩ := Lv3.atR hl (le3.1 _ _ r2)
    subst e2
    refine setItem_exact e1 h0 hfit (by rw [e3.length]; exact hk) fun h' n' hob hs => ?_
    exact hq _ W3 h' tk3 ((le1.trans le2).trans le3) (Lv3.upd hl (le3.1 _ _ r2) (fun b o hb e => (hs.2 b hb).trans e) hob ⟨_, n', rfl, e3.set (r1.mono (le2.trans le3))⟩) .next
theorem S_AssignSubDict {o i value : Expr} {p : Pos} {l : Nat} {k : Int} {kvs : List (Int × AV)} (h1 : TrE prog w K b c value σ y σ1) (h2 : TrE prog w K b c o σ1 (.ref l) σ2) (h3 : TrE prog w K b c i σ2 (.int k) σ3) (hl : σ3.vh[l]? = some (.idict kvs)) (hz : kvs.length ≤ 1000000) (hc : isComp value = false) :
    TrS prog w K b c (.Assign [.Subscript o i p] value pos) σ .next ⟨σ3.fm, σ3.vh.set l (.idict (setIdict kvs k y))⟩ := by
  intro ac env W s Q E O ER Lv hq
  refine wpAny_Assign_Subscript (h1 ac env W s _ E O ER Lv fun v1 W1 h1' tk1 le1 Lv1 r1 => ?_) (swaps_none hc)
  refine h2 ac env W1 _ _ E O (ER.mono le1) Lv1 fun v2 W2 h2' tk2 le2 Lv2 r2 => ?_
  refine h3 ac env W2 _ _ E O (ER.mono (le1.trans le2)) Lv2 fun v3 W3 h3' tk3 le3 Lv3 r3 => ?_
  obtain ⟨a2, q2, r2⟩ := r2.inv
  obtain ⟨t3, q3⟩ := r3.inv
  · rw [q2, q3]
    obtain ⟨ob, e1, ⟨ps, e2, e3⟩, _⟩ := Lv3.atR hl (le3.1 _ _ r2)
    refine wpAny_setItem_pairs (knd := intKind prog w) (k := k) (intKind_is prog w k _) (Heap.dictOf_iff.mpr ⟨ob, e1, e2⟩) (fun h' hd hs => ?_) (by rw [e3.len, sizeLine_eq]; omega)
    obtain ⟨ob', q1, q2⟩ := Heap.dictOf_iff.mp hd
    exact hq _ W3 h' _ ((le1.trans le2).trans le3) (Lv3.upd hl (le3.1 _ _ r2) (fun b o hb e => (hs.2 b hb).trans e) q1 ⟨_, q2, e3.stored (r1.mono (le2.trans le3))⟩) .next

theorem C_pop0 {l : Nat} {xs : List AV} (hl : vh[l]? = some (.list (x :: xs))) (hz : xs.length ≤ 1000000) : TrC prog w K b (.builtin "list.pop") [.ref l, .int 0] vh x (vh.set l (.list xs)) := by
  intro ac W fm s Q E vs O Lv hv hq
  obtain ⟨v, u', rfl, h1, h2⟩ := hv.inv2
  obtain ⟨a, rfl, ha⟩ := h1.inv
  obtain ⟨u, rfl⟩ := h2.inv
  · · · · obtain ⟨ob, e1, ⟨us, n, e2, e3⟩, _⟩ := Lv.atR (σ := ⟨fm, vh⟩) hl ha
          obtain ⟨v0, us', rfl, hv0, hvs⟩ := e3.inv
          subst e2
          · have hsz : (v0 :: us').toArray.size ≤ sizeLine := by
              rw [List.size_toArray, List.length_cons, hvs.length, sizeLine_eq]; omega
            refine call_meets PySem.F.slot_list_pop ⟨_, e1, rfl⟩ PySem.F.entry_list_pop (PySem.F.args_list_pop_2 _ _) (PySem.MeetsSeq.list_pop_at _ _ n 0 u 0 v0 (by decide) (by simp [seqIndex?]) (by simp) hsz) ⟨e1, ?_⟩
            refine hq _ W _ s.toks W.le_refl (Lv.upd (σ := ⟨fm, vh⟩) hl ha (fun b o hb e => ((Heap.SameBut.update s.heap _ _).2 b hb).trans e) (Heap.get?_update_self _ e1 (by rfl)) ⟨us', (if ((v0 :: us').toArray.eraseIdxIfInBounds 0).size == (v0 :: us').toArray.size then n else n + 1), ?_, hvs⟩) hv0
            show ({ cls := .type "list", data := .seq ((v0 :: us').toArray.eraseIdxIfInBounds 0) _ } : Obj) = _
            have e : (v0 :: us').toArray.eraseIdxIfInBounds 0 = us'.toArray := by simp [Array.eraseIdxIfInBounds]
            have e' : ((fun xs : Array Value => xs.eraseIdxIfInBounds 0) (v0 :: us').toArray) = us'.toArray := e
            rw [e, e']
theorem C_get {d : Nat} {kvs : List (Int × AV)} {k : Int} (hl : vh[d]? = some (.idict kvs)) : TrC prog w K b (.builtin "dict.get") [.ref d, .int k, x] vh ((intMapGet kvs k).getD x) vh := by
  intro ac W fm s Q E vs O Lv hv hq
  obtain ⟨v, u', z, rfl, h1, h2, h3⟩ := hv.inv3
  obtain ⟨a, rfl, ha⟩ := h1.inv
  obtain ⟨u, rfl⟩ := h2.inv
  · · · · · obtain ⟨ob, e1, ⟨ps, e2, e3⟩, _⟩ := Lv.atR (σ := ⟨fm, vh⟩) hl ha
            have hd := Heap.dictOf_iff.mpr ⟨ob, e1, e2⟩
            have hlow := Lv.low ha
            have lo : (a == sysModules) = false := by
              rw [beq_eq_false_iff_ne]
              intro z
              rw [z] at hlow
              exact absurd hlow (by decide)
            refine call_meetsIn PySem.F.slot_dict_get hd.typeIs PySem.F.entry_dict_get (PySem.F.args_dict_get_3 _ _ _) (meets_dict_get_default (intKind prog w) _ (intKind_is prog w k u) lo _) ⟨_, hd.mapOf, hq _ W _ _ W.le_refl Lv ?_⟩
            exact (e3.find k).getD h3
theorem C_join {l : Nat} {ys : List Str} {sep : Str} (hl : vh[l]? = some (.list (ys.map .str))) (hsep : sep.length ≤ 64) (hok : (ys.map (·.length)).sum + ys.length * 64 ≤ 16777216) : TrC prog w K b (.builtin "str.join") [.str sep, .ref l] vh (.str (Builtin.Str.glued sep ys)) vh := by
  intro ac W fm s Q E vs O Lv hv hq
  obtain ⟨v, u, rfl, h1, h2⟩ := hv.inv2
  obtain ⟨t, rfl⟩ := h1.inv
  obtain ⟨a, rfl, ha⟩ := h2.inv
  · · · obtain ⟨ob, e1, ⟨us, n, e2, e3⟩, _⟩ := Lv.atR (σ := ⟨fm, vh⟩) hl ha
        subst e2
        exact join_listC (items := us.toArray) ⟨_, e1, rfl, _, rfl⟩ e3.strs hsep hok fun t' k => hq _ W _ _ W.le_refl Lv (.str _ _)
theorem E_DictNil : TrE prog w K b c (.Dict [] [] pos) σ (.ref σ.vh.length) ⟨σ.fm, σ.vh ++ [.idict []]⟩ := by
  intro ac env W s Q E O ER Lv hq
  refine wpAny_Dict_empty ?_
  have hd : (s.heap.push { cls := .type "dict", data := .dict #[] }).DictOf (intKind prog w) s.heap.objs.size [] := Heap.DictOf.new s.heap
  obtain ⟨ob', q1, q2⟩ := Heap.dictOf_iff.mp hd
  refine hq _ (W.add _) _ s.toks (W.le_add _) (Lv.add (fun _ _ e => Heap.get?_push_of_some _ e) (get_size_none _) q1 ⟨[], q2, .nil⟩ (Lv.size_low O)) (.ref ?_)
  rw [← Lv.len]; exact W.add_get _
end

noncomputable def relabelA (c : Cx) (sc : Scope) : Scope := { sc with names := sc.names.map fun (n, k) => if (k == .free && c.kindOf n == some .cell) = true then (n, .cell) else (n, k) }
theorem relabel_eq {W : Wd} {c : Cx} {ac : Act} {env : Env} (e : EnvR W c ac env) (sc : Scope) : relabel sc env = relabelA c sc := by
  unfold relabel relabelA
  rw [e.kind']
  simp only [e.kindOf, beq_self_eq_true, Bool.and_true]
/-- the cells that a block closes over -/
noncomputable def closA (c : Cx) : List (Str × NameKind) → List (Str × Nat) → Option (List (Str × Nat))
  | [], cs => some cs
  | (n, k) :: r, cs => if (k == .free) = true then (match c.cells.lookup n with | some i => closA c r ((n, i) :: cs) | none => none) else closA c r cs
theorem ClR.cons {W : Wd} {cl' : List (Str × Addr)} {cl : List (Str × Nat)} (h : ClR W cl' cl) {n : Str} {a : Addr} {i : Nat} (ha : W.adr[i]? = some a) : ClR W ((n, a) :: cl') ((n, i) :: cl) := fun x k e => by
  rw [lookup_hd] at e ⊢
  by_cases q : x = n
  · rw [if_pos q] at e ⊢
    cases e
    exact ⟨a, ha, rfl⟩
  · rw [if_neg q] at e ⊢
    exact h x k e
theorem closure_ok {W : Wd} {c : Cx} {ac : Act} {env : Env} (e : EnvR W c ac env) : ∀ (names : List (Str × NameKind)) (cs : List (Str × Nat)) (cs' : List (Str × Addr)) (cl : List (Str × Nat)), ClR W cs' cs → closA c names cs = some cl →
    ∃ cl', (forIn names cs' (fun (x : Str × NameKind) (r : List (Str × Addr)) => if (x.2 == NameKind.free) = true then do let a ← cellOf env x.1; pure (ForInStep.yield ((x.1, a) :: r)) else pure (ForInStep.yield r)) : Sem (List (Str × Addr))) = pure cl' ∧ ClR W cl' cl
  | [], cs, cs', cl, hr, h => by cases h; exact ⟨cs', by rw [List.forIn_nil], hr⟩
  | (n, k) :: r, cs, cs', cl, hr, h => by
    unfold closA at h
    rw [List.forIn_cons]
    by_cases q : (k == NameKind.free) = true
    · simp only [if_pos q] at h ⊢
      split at h
      · rename_i i hi
        obtain ⟨a, h1, h2⟩ := e.cells n i hi
        have : cellOf env n = pure a := by unfold cellOf; rw [h2]
        rw [this]
        exact closure_ok e r _ _ cl (hr.cons h1) h
      · cases h
    · simp only [if_neg q] at h ⊢
      exact closure_ok e r _ _ cl hr h
theorem closureFor_ok {W : Wd} {c : Cx} {ac : Act} {env : Env} (e : EnvR W c ac env) {sc : Scope} {cl : List (Str × Nat)} (h : closA c sc.names [] = some cl) : ∃ cl', closureFor sc env = pure cl' ∧ ClR W cl' cl := by
  obtain ⟨cl', h1, h2⟩ := closure_ok e sc.names [] [] cl (fun _ _ q => by cases q) h
  refine ⟨cl', ?_, h2⟩
  show ((forIn sc.names [] (fun (x : Str × NameKind) (r : List (Str × Addr)) => if (x.2 == NameKind.free) = true then do let a ← cellOf env x.1; pure (ForInStep.yield ((x.1, a) :: r)) else pure (ForInStep.yield r)) : Sem (List (Str × Addr))) >>= fun cs => pure cs) = _
  rw [h1]
  rfl

section
variable (prog : Program) (w : World) (K : Frag)
/-- the tests of a comprehension -/
abbrev TrIfs (b : Nat) (c : Cx) (ifs : List Expr) (σ : AS) (x : Bool) (σ' : AS) : Prop := Tr prog w K (fun _ (v : Bool) y => v = y) b c (fun env => forIn ifs true fun c r => if r = true then do let ok ← isTrue c env (eval c env); pure (ForInStep.yield ok) else pure (ForInStep.yield r)) σ x σ'
noncomputable def Cx.comp (c : Cx) (sc : Scope) (cl : List (Str × Nat)) (n : Str) (x : AV) : Cx := ⟨relabelA c sc, cl, some [(n, some x)], c.qual, c.code⟩
/-- the runs of a comprehension over xs; l is the list that is made -/
inductive CRun (b : Nat) (c : Cx) (sc : Scope) (cl : List (Str × Nat)) (n : Str) (ifs : List Expr) (elt : Expr) (l : Nat) (P : AS → Prop) : List AV → AS → AS → Prop
  | done {σ : AS} : P σ → CRun b c sc cl n ifs elt l P [] σ σ
  | skip {σ σ1 σ3 : AS} {x : AV} {xs : List AV} : P σ → TrIfs prog w K b (c.comp sc cl n x) ifs σ false σ1 → CRun b c sc cl n ifs elt l P xs σ1 σ3 → CRun b c sc cl n ifs elt l P (x :: xs) σ σ3
  | take {σ σ1 σ2 σ3 : AS} {x y : AV} {xs zs : List AV} : P σ → TrIfs prog w K b (c.comp sc cl n x) ifs σ true σ1 → TrE prog w K b (c.comp sc cl n x) elt σ1 y σ2 → σ2.vh[l]? = some (.list zs) → zs.length ≤ 1000000 →
      CRun b c sc cl n ifs elt l P xs ⟨σ2.fm, σ2.vh.set l (.list (zs ++ [y]))⟩ σ3 → CRun b c sc cl n ifs elt l P (x :: xs) σ σ3
end
section
variable {prog : Program} {w : World} {K : Frag} {b : Nat} {c : Cx} {σ σ1 σ2 σ3 σ4 : AS} {x y z : AV} {pos apos : Pos} {vh : List AO}
theorem Ifs_nil : TrIfs prog w K b c [] σ true σ := by
  intro ac env W s Q E O ER Lv hq
  show wpAny _ _ (forIn [] true _) Q E s
  rw [List.forIn_nil]
  exact wpAny_pure (hq _ W s.heap s.toks W.le_refl Lv rfl)
theorem Ifs_one {t : Expr} {v : Bool} (h : TrT prog w K b c t σ v σ1) : TrIfs prog w K b c [t] σ v σ1 := by
  intro ac env W s Q E O ER Lv hq
  exact wpAny_tests_one (h ac env W s Q E O ER Lv hq)

noncomputable def CRunI (prog : Program) (w : World) (K : Frag) (b : Nat) (c : Cx) (sc : Scope) (cl : List (Str × Nat)) (n : Str) (ifs : List Expr) (elt : Expr) (l : Nat) (P : AS → Prop) : List AV → AS → AS → Prop
  | [], σ, σ' => P σ ∧ σ' = σ
  | x :: xs, σ, σ3 => P σ ∧ ((∃ σ1, TrIfs prog w K b (c.comp sc cl n x) ifs σ false σ1 ∧ CRun prog w K b c sc cl n ifs elt l P xs σ1 σ3) ∨
      ∃ σ1 σ2 y zs, TrIfs prog w K b (c.comp sc cl n x) ifs σ true σ1 ∧ TrE prog w K b (c.comp sc cl n x) elt σ1 y σ2 ∧ σ2.vh[l]? = some (.list zs) ∧ zs.length ≤ 1000000 ∧ CRun prog w K b c sc cl n ifs elt l P xs ⟨σ2.fm, σ2.vh.set l (.list (zs ++ [y]))⟩ σ3)
theorem CRun.inv {sc : Scope} {cl : List (Str × Nat)} {n : Str} {ifs : List Expr} {elt : Expr} {l : Nat} {P : AS → Prop} {xs : List AV} (h : CRun prog w K b c sc cl n ifs elt l P xs σ σ1) : CRunI prog w K b c sc cl n ifs elt l P xs σ σ1 :=
  CRun.casesOn (motive := fun xs σ σ1 _ => CRunI prog w K b c sc cl n ifs elt l P xs σ σ1) h (fun p => ⟨p, rfl⟩) (fun p a r => ⟨p, .inl ⟨_, a, r⟩⟩) (fun p a e q z r => ⟨p, .inr ⟨_, _, _, _, a, e, q, z, r⟩⟩)
/-- between two turns of a comprehension -/
inductive CInv (prog : Program) (w : World) (K : Frag) (b : Nat) (c : Cx) (sc : Scope) (cl : List (Str × Nat)) (n : Str) (ifs : List Expr) (elt : Expr) (l : Nat) (P : AS → Prop) (PW : Wd → Prop) (ac : Act) (W0 : Wd) (ad : List Addr) (it C : Addr) (s : Shared) (σ2 : AS) (k : Nat) (s' : Shared) : Prop
  | mk (W' : Wd) (h' : Heap) (tk' : Nat) (σ' : AS) (ys : List AV) (ob' obC' : Obj) (es : Array DictEntry) (ep : Nat) (m' : Str → Option Value) (hk : k = ys.length) (hle : W0.le W') (had : ∀ (n : Nat) (a : Addr), ad[n]? = some a → W'.adr[n]? = some a) (hs : s' = { s with heap := h', toks := tk' }) (hL : Lives prog w ac W' σ' h') (hi : (it, ob') ∈ W'.tups) (hc : (C, obC') ∈ W'.tups)
      (hd : obC'.data = .dict es ep) (hS : StrKeys es) (hf : ∀ name, nsFind es name = m' name) (hp : PW W') (hN : NextOk prog w PW P ys ob') (hr : CRun prog w K b c sc cl n ifs elt l P ys σ' σ2)
theorem comp_core {elt iter : Expr} {tx : Str} {tp : Pos} {ifs : List Expr} {scope : Scope} {cl : List (Str × Nat)} {cl' : List (Str × Addr)} {P : AS → Prop} {xs : List AV} {ac : Act} {env : Env} {W1 : Wd} {s : Shared} {ob : Obj} {PW : Wd → Prop} {RR : Value → Addr → Result → Shared → Prop}
    (O : Ok K b ac) (ER : EnvR W1 c ac env) (Lv : Lives prog w ac W1 ⟨σ1.fm, σ1.vh⟩ s.heap) (hcl' : ClR W1 cl' cl) (hr : CRun prog w K b c scope cl tx ifs elt σ1.vh.length P xs ⟨σ1.fm, σ1.vh ++ [.list []]⟩ σ2)
    (hcell : ∀ y ∈ scope.names, y.2 ≠ .cell) (hkind : scope.kind = .function) (hx : scope.names.lookup tx = some .local)
    {it : Addr} (hit : (it, ob) ∈ W1.tups) (hPW : PW W1) (st : Stable PW) (hN : NextOk prog w PW P xs ob) (hA : AgainOk prog w ob) {W0 : Wd} (hW0 : W0.le W1) (hit0 : ∀ p ∈ W0.tups, p.1 ≠ it)
    {E : Value → Shared → Prop} (hfin : ∀ (W' : Wd) (h' : Heap) (tk' : Nat) (C : Addr) (obC : Obj) (a : Addr) (es : Array DictEntry) (ep : Nat) (m' : Str → Option Value), W0.le W' → Lives prog w ac W' σ2 h' → W'.adr[σ1.vh.length]? = some a → (C, obC) ∈ W'.tups → obC.data = .dict es ep → StrKeys es → (∀ name, nsFind es name = m' name) → (∀ p ∈ W0.tups, p.1 ≠ C) →
      RR (.ref a) C (.ok .next) { s with heap := h', toks := tk' }) :
    wpAny (model prog w) ac.A (newList []) (fun acc s₃ => wpAny (model prog w) ac.A (newFunctionEnv scope env.globals cl' [] env.qual none .none (some env)) (fun cenv s₄ =>
      codeAny (model prog w) ac.A (.compStart (.ListComp elt [⟨.Name tx tp, iter, ifs, 0⟩] scope pos) 0 (.ref it) acc { cenv with scope := relabel scope env }) (RR acc cenv.locals) s₄) E s₃) E s := by
  refine wpAny_newObj_type (wpAny_newFunctionEnv hcell (by intro y hy; simp at hy) (fun h₁ hns₁ hsb₁ => ?_) hkind)
  dsimp only at hns₁ hsb₁ ⊢
  have L2 : Lives prog w ac (W1.add s.heap.objs.size) ⟨σ1.fm, σ1.vh ++ [.list []]⟩ (s.heap.push { cls := .type "list", data := .seq ([] : List Value).toArray }) :=
    Lv.add (fun _ _ e => Heap.get?_push_of_some _ e) (get_size_none _) (Heap.get?_push_size _ rfl) ⟨[], 0, rfl, .nil⟩ (Lv.size_low O)
  generalize hH2 : s.heap.push { cls := .type "list", data := .seq ([] : List Value).toArray } = H2 at hns₁ hsb₁ L2 ⊢
  have hgrow : ∀ b o, H2.get? b = some o → h₁.get? b = some o := fun b o e => hsb₁.extBut b o (Nat.ne_of_lt (Heap.lt_size e)) (Heap.get?_push_of_some _ e)
  obtain ⟨obC, esC, epC, c1, c2, c3, c4⟩ := hns₁
  have hCf : obC.isFreed = false := Obj.isFreed_of_dict c2
  have L3 : Lives prog w ac ((W1.add s.heap.objs.size).addT (H2.objs.size, obC)) ⟨σ1.fm, σ1.vh ++ [.list []]⟩ h₁ := L2.addT hgrow (get_size_none _) c1
  have le13 : W1.le ((W1.add s.heap.objs.size).addT (H2.objs.size, obC)) := (W1.le_add _).trans (Wd.le_addT _ _)
  have hC0 : ∀ p ∈ W0.tups, p.1 ≠ H2.objs.size := fun p hp => Nat.ne_of_lt (Heap.lt_size (L2.tup (ob := p.2) (hW0.2.1 p hp)))
  have hitC : it ≠ H2.objs.size := Nat.ne_of_lt (Heap.lt_size (L2.tup (ob := ob) hit))
  have hadr : ((W1.add s.heap.objs.size).addT (H2.objs.size, obC)).adr[σ1.vh.length]? = some s.heap.objs.size := by
    show (W1.add s.heap.objs.size).adr[σ1.vh.length]? = _
    have := Lv.len
    rw [show σ1.vh.length = W1.adr.length from this.symm]; exact W1.add_get _
  rw [relabel_eq ER]
  have hkx : (relabelA c scope).names.lookup tx = some .local := by
    rw [← relabel_eq ER]; exact lookup_relabel_local hx
  have loop : codeAny (model prog w) ac.A (.compLoop (.ListComp elt [⟨.Name tx tp, iter, ifs, 0⟩] scope pos) 0 (.ref it) (.ref s.heap.objs.size) { newEnv scope H2.objs.size env.globals cl' env.qual none .none (some env) builtinsNs with scope := relabelA c scope })
      (RR (.ref s.heap.objs.size) H2.objs.size) { s with heap := h₁, toks := s.toks + ([] : List (Str × Value)).length } := by
    refine codeAny_compLoop_tests (CInv prog w K b c scope cl tx ifs elt σ1.vh.length P PW ac W0 ((W1.add s.heap.objs.size).addT (H2.objs.size, obC)).adr it H2.objs.size s σ2) ?_ xs.length
      ⟨_, _, _, _, xs, ob, obC, esC, epC, _, rfl, hW0.trans le13, fun _ _ e => e, rfl, L3, le13.2.1 _ hit, .head _, c2, c3, c4, st.le _ _ le13 hPW, hN, hr⟩
    rintro k s' ⟨W2, h2', tk2, σ', ys, ob2, obC2, es, ep, m', rfl, le2, ha2, rfl, Lv2, hi2, hc2, d1, d2, d3, hPW2, hN2, hr2⟩
    have hob2 := Lv2.tup hi2
    have hpass : Passing W2 it := fun o z => by
      have := Lv2.tup z
      rw [hob2] at this; cases this
      exact hN2.iterish.not
    cases ys with
    | nil =>
      obtain ⟨p, e⟩ := hr2.inv
      · rw [e] at hfin
        refine hN2.2 ac W2 σ' _ _ _ _ O.handled Lv2 hob2 hPW2 p fun h3' hx' => ?_
        exact hfin (W2.swap it []) h3' tk2 H2.objs.size obC2 s.heap.objs.size es ep m' (Wd.le_swap le2 hit0) (Lv2.swapT hi2 hN2.iterish.not (fun b o hb e => hx' b o hb e) [] (fun p hp => by cases hp)) (ha2 _ _ hadr) (swap_mem hc2 (Ne.symm hitC)) d1 d2 d3 hC0
    | cons y ys =>
      obtain ⟨hp, hr2⟩ := hr2.inv
      refine hN2.2 ac W2 σ' _ _ _ _ O.handled Lv2 hob2 hPW2 hp fun v ob3 h3' tk3 rv hb hob3 hN3 => ?_
      have L4 : Lives prog w ac (W2.swap it [(it, ob3)]) σ' h3' := Lv2.swapT hi2 hN2.iterish.not (fun b o hb' e => (hb.2 b hb').trans e) _ fun p hp => by
        simp at hp; subst hp; exact ⟨rfl, hob3⟩
      have rv4 := rv.swap (n := [(it, ob3)]) hpass
      have hc4 : (H2.objs.size, obC2) ∈ (W2.swap it [(it, ob3)]).tups := swap_mem hc2 (Ne.symm hitC)
      have hi4 : (it, ob3) ∈ (W2.swap it [(it, ob3)]).tups := List.mem_append_left _ (.head _)
      have le4 : W0.le (W2.swap it [(it, ob3)]) := Wd.le_swap le2 hit0
      have PW4 := st.swap W2 it [(it, ob3)] hpass hPW2
      have hcob := L4.tup hc4
      refine wpAny_assign_Name (wpAny_storeName_local (m := m') hkx ⟨obC2, es, ep, hcob, d1, d2, d3⟩ (fun h5' hn5 hs5 => ?_) ?_)
      · obtain ⟨obC5, es5, ep5, f1, f2, f3, f4⟩ := hn5
        have hs5' : ∀ b o, b ≠ H2.objs.size → h3'.get? b = some o → h5'.get? b = some o := fun b o hb' e => (hs5.2 b hb').trans e
        have hpassC : Passing (W2.swap it [(it, ob3)]) H2.objs.size := fun o z => by
          have := L4.tup z
          rw [hcob] at this; cases this
          exact .inr ⟨_, _, d1⟩
        have L5 : Lives prog w ac ((W2.swap it [(it, ob3)]).swap H2.objs.size [(H2.objs.size, obC5)]) σ' h5' := L4.swapT hc4 (.inr ⟨_, _, d1⟩) hs5' _ fun p hp => by
          simp at hp; subst hp; exact ⟨rfl, f1⟩
        have rv5 := rv4.swap (n := [(H2.objs.size, obC5)]) hpassC
        have hc5 : (H2.objs.size, obC5) ∈ ((W2.swap it [(it, ob3)]).swap H2.objs.size [(H2.objs.size, obC5)]).tups := List.mem_append_left _ (.head _)
        have hi5 : (it, ob3) ∈ ((W2.swap it [(it, ob3)]).swap H2.objs.size [(H2.objs.size, obC5)]).tups := swap_mem hi4 hitC
        have le5 : W0.le ((W2.swap it [(it, ob3)]).swap H2.objs.size [(H2.objs.size, obC5)]) := Wd.le_swap le4 hC0
        have PW5 := st.swap _ H2.objs.size [(H2.objs.size, obC5)] hpassC PW4
        generalize hW5 : (W2.swap it [(it, ob3)]).swap H2.objs.size [(H2.objs.size, obC5)] = W5 at L5 rv5 hc5 hi5 le5 PW5
        have ha5 : ∀ (n : Nat) (a : Addr), ((W1.add s.heap.objs.size).addT (H2.objs.size, obC)).adr[n]? = some a → W5.adr[n]? = some a := by
          subst hW5; exact ha2
        have ER5 : EnvR W5 (c.comp scope cl tx y) ac { newEnv scope H2.objs.size env.globals cl' env.qual none .none (some env) builtinsNs with scope := relabelA c scope } := by
          refine ⟨rfl, ER.globals, ER.builtins, hkind, fun q k e => ?_, ?_, ER.frame, ER.code, ER.qual⟩
          · obtain ⟨a, g1, g2⟩ := hcl' q k e
            exact ⟨a, ha5 _ _ (le13.1 _ _ g1), g2⟩
          · refine ⟨obC5, es5, ep5, _, hc5, f2, f3, f4, fun q u e => ?_⟩
            rw [lookup_hd] at e
            by_cases hq : q = tx
            · rw [if_pos hq] at e
              cases e
              exact ⟨v, if_pos hq, rv5⟩
            · rw [if_neg hq] at e; cases e
        have back : ∀ {W6 : Wd} {h6 : Heap} {tk6 : Nat} {σ6 : AS}, W5.le W6 → Lives prog w ac W6 σ6 h6 → CRun prog w K b c scope cl tx ifs elt σ1.vh.length P ys σ6 σ2 →
            ∃ m, m < (y :: ys).length ∧ CInv prog w K b c scope cl tx ifs elt σ1.vh.length P PW ac W0 ((W1.add s.heap.objs.size).addT (H2.objs.size, obC)).adr it H2.objs.size s σ2 m { s with heap := h6, toks := tk6 } := fun {W6 h6 tk6 σ6} le6 L6 r6 =>
          ⟨ys.length, Nat.lt_succ_self _, W6, h6, tk6, σ6, ys, ob3, obC5, es5, ep5, _, rfl, le5.trans le6, fun n a e => le6.1 _ _ (ha5 n a e), rfl, L6, le6.2.1 _ hi5, le6.2.1 _ hc5, f2, f3, f4, st.le _ _ le6 PW5, hN3, r6⟩
        rcases hr2 with ⟨σ3, ti, rest⟩ | ⟨σ3, σ4, z, zs, ti, te, hl, hz, rest⟩
        · refine ti ac _ W5 _ _ _ O ER5 L5 fun t W6 h6' tk6 le6 L6 r6 => ?_
          subst r6
          exact back le6 L6 rest
        · refine ti ac _ W5 _ _ _ O ER5 L5 fun t W6 h6' tk6 le6 L6 r6 => ?_
          subst r6
          rw [if_pos rfl]
          refine te ac _ W6 _ _ _ O (ER5.mono le6) L6 fun u W7 h7' tk7 le7 L7 r7 => ?_
          refine C_append (b := b) (K := K) hl hz ac W7 _ _ _ _ [.ref s.heap.objs.size, u] O L7 (.cons (.ref (le7.1 _ _ (le6.1 _ _ (ha5 _ _ hadr)))) (.cons r7 .nil)) fun r W8 h8' tk8 le8 L8 r8 => ?_
          exact back ((le6.trans le7).trans le8) L8 rest
      · show ((relabelA c scope).kind == .class || _) = false
        have : (relabelA c scope).kind = .function := hkind
        rw [this]; rfl
  exact codeAny_compStart_list loop (hA _ _ _ _ _ (L3.tup (le13.2.1 _ hit)) loop)
end

/-- what is asked of a comprehension's scope -/
structure CompOk (c : Cx) (scope : Scope) (tx : Str) (cl : List (Str × Nat)) : Prop where
  clos : closA c scope.names [] = some cl
  cell : ∀ y ∈ scope.names, y.2 ≠ .cell
  kind : scope.kind = .function
  names : ∀ x ∈ scope.names, x.2 = .local → scope.names.lookup x.1 = some .local
  var : scope.names.lookup tx = some .local
noncomputable def compOk (c : Cx) (scope : Scope) (tx : Str) : Option (List (Str × Nat)) :=
  match closA c scope.names [] with
  | some cl => if (scope.names.all fun y => y.2 != .cell) && scope.kind == .function && (scope.names.all fun x => x.2 != .local || scope.names.lookup x.1 == some .local) && scope.names.lookup tx == some .local then some cl else none
  | none => none
theorem compOk_ok {c : Cx} {scope : Scope} {tx : Str} {cl : List (Str × Nat)} (h : compOk c scope tx = some cl) : CompOk c scope tx cl := by
  unfold compOk at h
  split at h
  · rename_i cl0 hc
    split at h
    · rename_i q
      cases h
      simp only [Bool.and_eq_true, List.all_eq_true, bne_iff_ne, ne_eq, beq_iff_eq, Bool.or_eq_true] at q
      obtain ⟨⟨⟨q1, q2⟩, q3⟩, q4⟩ := q
      refine ⟨hc, q1, q2, fun x hx e => ?_, q4⟩
      rcases q3 x hx with q | q
      · exact absurd e q
      · exact q
    · cases h
  · cases h

section
variable {prog : Program} {w : World} {K : Frag} {b : Nat} {c : Cx} {σ σ1 σ2 σ3 σ4 : AS} {x y z : AV} {pos apos : Pos} {vh : List AO}

theorem E_ListComp {elt iter : Expr} {tx : Str} {tp : Pos} {ifs : List Expr} {scope : Scope} {cl : List (Str × Nat)} {P : AS → Prop} {xs : List AV} (h : TrE prog w K b c iter σ x σ1) (hi : IterOk prog w x P xs) (hP : P σ1) (ho : CompOk c scope tx cl)
    (hr : CRun prog w K b c scope cl tx ifs elt σ1.vh.length P xs ⟨σ1.fm, σ1.vh ++ [.list []]⟩ σ2) (hs : ∀ env x, foldedSetIterable iter env x = pure x) :
    TrE prog w K b c (.ListComp elt [⟨.Name tx tp, iter, ifs, 0⟩] scope pos) σ (.ref σ1.vh.length) σ2 := by
  intro ac env W s Q E O ER Lv hq
  obtain ⟨cl', hcl, hcl'⟩ := closureFor_ok ER ho.clos
  show wpAny _ _ (comprehension (.ListComp elt [⟨.Name tx tp, iter, ifs, 0⟩] scope pos) scope env iter.pos (newList []) false (eval iter env)) Q E s
  refine wpAny_comprehension_free (use := none) rfl (hs env) hcl ho.kind ho.names (h ac env W s _ E O ER Lv fun v1 W1 h1' tk1 le1 Lv1 r1 => hi ac W1 σ1 _ v1 _ E Lv1 r1 hP fun ob PW hPW st hN hA => ?_)
  have hfree : ∀ p ∈ W1.tups, p.1 ≠ h1'.objs.size := fun p hp => Nat.ne_of_lt (Heap.lt_size (Lv1.tup (ob := p.2) hp))
  have start : Lives prog w ac (W1.addT (h1'.objs.size, ob)) ⟨σ1.fm, σ1.vh⟩ (h1'.push ob) := Lv1.addT (fun _ _ e => Heap.get?_push_of_some _ e) (get_size_none _) (Heap.get?_push_size _ hN.iterish.notFreed)
  refine comp_core (W0 := W1) (RR := fun acc C => compPost (model prog w) ac.A E none Q acc C) O (ER.mono (le1.trans (W1.le_addT _))) start ?_ hr ho.cell ho.kind ho.var (.head _) (st.le _ _ (W1.le_addT _) hPW) st hN hA (W1.le_addT _) hfree ?_
  · exact (hcl'.mono le1).mono (W1.le_addT _)
  · intro W' h' tk' C obC a es ep m' le L ha hC d1 d2 d3 hC0
    refine ⟨m', ⟨obC, es, ep, L.tup hC, d1, d2, d3⟩, fun h'' hs'' => ?_⟩
    have L2 := L.swapT hC (.inr ⟨_, _, d1⟩) (fun b o hb e => (hs''.2 b hb).trans e) [] (fun p hp => by cases hp)
    exact hq _ _ h'' tk' (le1.trans (Wd.le_swap le hC0)) L2 (.ref ha)

/-- an assignment of a comprehension to a local name: the store comes before the block's names go -/
theorem S_AssignComp {n : Str} {np : Pos} {elt iter : Expr} {tx : Str} {tp : Pos} {ifs : List Expr} {scope : Scope} {cl : List (Str × Nat)} {P : AS → Prop} {xs : List AV} {spos : Pos} (h : TrE prog w K b c iter σ x σ1) (hi : IterOk prog w x P xs) (hP : P σ1) (ho : CompOk c scope tx cl)
    (hr : CRun prog w K b c scope cl tx ifs elt σ1.vh.length P xs ⟨σ1.fm, σ1.vh ++ [.list []]⟩ σ2) (hs : ∀ env x, foldedSetIterable iter env x = pure x)
    (hst : storeN c σ2 n (.ref σ1.vh.length) = some σ3) (hn : c.kindOf n = some .local) (hline : (np.line == pos.line) = true) (hno : (scope.names.any fun (m, k) => m == n && (k == .local || k == .cell)) = false) :
    TrS prog w K b c (.Assign [.Name n np] (.ListComp elt [⟨.Name tx tp, iter, ifs, 0⟩] scope pos) spos) σ .next σ3 := by
  intro ac env W s Q E O ER Lv hq
  obtain ⟨cl', hcl, hcl'⟩ := closureFor_ok ER ho.clos
  have hsw : swapsWith (.ListComp elt [⟨.Name tx tp, iter, ifs, 0⟩] scope pos) (some (.Name n np)) spos.line env = pure true := by
    show (pure (env.blockKind == .function && env.kindOf n == some .local && np.line == pos.line && !(scope.names.any fun (m, k) => m == n && (k == .local || k == .cell))) : Sem Bool) = pure true
    have hb : env.blockKind = .function := by
      unfold Env.blockKind
      rw [ER.kind']; rfl
    rw [hb, ER.kindOf, hn, hline, hno]
    rfl
  show wpAny _ _ (exec (.Assign [.Name n np] (.ListComp elt [⟨.Name tx tp, iter, ifs, 0⟩] scope pos) spos) env) Q E s
  rw [exec_Assign_Name_used _ _ _ _ hsw]
  refine wpAny_bind (wpAny_standAt (wpAny_bind ?_))
  show wpAny _ ac.A (do let _ ← comprehension (.ListComp elt [⟨.Name tx tp, iter, ifs, 0⟩] scope pos) scope env _ (newList []) false (eval iter env) (some (assign (.Name n np) env))) _ _ s
  refine wpAny_bind (wpAny_mono (wpAny_comprehension_free (use := some (assign (.Name n np) env)) (Q := fun _ s' => Q .next s') rfl (hs env) hcl ho.kind ho.names
    (h ac env W s _ E O ER Lv fun v1 W1 h1' tk1 le1 Lv1 r1 => hi ac W1 σ1 _ v1 _ E Lv1 r1 hP fun ob PW hPW st hN hA => ?_)) (fun _ s' hq => wpAny_pure (wpAny_pure hq)) fun _ _ e => e)
  have hfree : ∀ p ∈ W1.tups, p.1 ≠ h1'.objs.size := fun p hp => Nat.ne_of_lt (Heap.lt_size (Lv1.tup (ob := p.2) hp))
  have start : Lives prog w ac (W1.addT (h1'.objs.size, ob)) ⟨σ1.fm, σ1.vh⟩ (h1'.push ob) := Lv1.addT (fun _ _ e => Heap.get?_push_of_some _ e) (get_size_none _) (Heap.get?_push_size _ hN.iterish.notFreed)
  refine comp_core (W0 := W1) (RR := fun acc C => compPost (model prog w) ac.A E (some (assign (.Name n np) env)) (fun _ s' => Q .next s') acc C) O (ER.mono (le1.trans (W1.le_addT _))) start ?_ hr ho.cell ho.kind ho.var (.head _) (st.le _ _ (W1.le_addT _) hPW) st hN hA (W1.le_addT _) hfree ?_
  · exact (hcl'.mono le1).mono (W1.le_addT _)
  · intro W' h' tk' C obC a es ep m' le L ha hC d1 d2 d3 hC0
    refine A_Name (pos := np) hst ac env W' _ _ E _ O (ER.mono (le1.trans le)) L (.ref ha) fun W3 h3' tk3 le3 L3 => ?_
    have hC3 := le3.2.1 _ hC
    refine ⟨m', ⟨obC, es, ep, L3.tup hC3, d1, d2, d3⟩, fun h'' hs'' => ?_⟩
    have L4 := L3.swapT hC3 (.inr ⟨_, _, d1⟩) (fun b o hb e => (hs''.2 b hb).trans e) [] (fun p hp => by cases hp)
    exact hq _ _ h'' tk3 (le1.trans (Wd.le_swap (le.trans le3) hC0)) L4 .next
end

noncomputable def cellNames : List (Str × NameKind) → List Str → List Str
  | [], acc => acc
  | (n, k) :: r, acc => if (k == .cell) = true then cellNames r (n :: acc) else cellNames r acc
theorem cellNames_eq : ∀ (names : List (Str × NameKind)) (n : Nat) (acc : List (Str × Addr)), (cellsFrom n names acc).map (·.1) = cellNames names (acc.map (·.1))
  | [], _, _ => rfl
  | (x, k) :: r, n, acc => by
    unfold cellsFrom cellNames
    by_cases h : (k == NameKind.cell) = true
    · rw [if_pos h, if_pos h, cellNames_eq r]; rfl
    · rw [if_neg h, if_neg h, cellNames_eq r]
theorem cellsFrom_addr : ∀ (names : List (Str × NameKind)) (n lo : Nat) (acc : List (Str × Addr)), lo ≤ n → (∀ p ∈ acc, lo ≤ p.2 ∧ p.2 < n) → (acc.map (·.2)).Nodup → ((cellsFrom n names acc).map (·.2)).Nodup ∧ ∀ p ∈ cellsFrom n names acc, lo ≤ p.2
  | [], _, _, acc, _, h, nd => ⟨nd, fun p hp => (h p hp).1⟩
  | (x, k) :: r, n, lo, acc, hlo, h, nd => by
    unfold cellsFrom
    by_cases hk : (k == NameKind.cell) = true
    · rw [if_pos hk]
      refine cellsFrom_addr r (n + 1) lo _ (by omega) (fun p hp => ?_) ?_
      · rcases List.mem_cons.mp hp with rfl | hp
        · exact ⟨hlo, Nat.lt_succ_self _⟩
        · have := h p hp; exact ⟨this.1, Nat.lt_succ_of_lt this.2⟩
      · rw [List.map_cons, List.nodup_cons]
        refine ⟨fun hm => ?_, nd⟩
        obtain ⟨p, hp, e⟩ := List.mem_map.mp hm
        have := (h p hp).2
        rw [e] at this
        exact Nat.lt_irrefl _ this
    · rw [if_neg hk]
      exact cellsFrom_addr r n lo acc hlo h nd
theorem CellsAre.addrs {cm : Str → Option Value} {cs : List (Str × Addr)} {cells : List (Addr × Obj)} (h : CellsAre cm cs cells) : cells.map (·.1) = cs.map (·.2) := by
  induction h with
  | nil => rfl
  | cons _ _ ih => rw [List.map_cons, List.map_cons, ih]

theorem bindL_eq (ks : Str → Option NameKind) {z : Str} (hz : ks z = some .local) : ∀ (binds : List (Str × Value)) (m : Str → Option Value), bindL ks binds m z = (binds.reverse.lookup z).or (m z)
  | [], m => rfl
  | (n, v) :: r, m => by
    unfold bindL
    rw [bindL_eq ks hz r, List.reverse_cons, lookup_app, lookup_hd]
    cases r.reverse.lookup z with
    | some u => rfl
    | none =>
      by_cases q : z = n
      · subst q
        rw [if_pos hz, if_pos rfl]
        simp
      · rw [if_neg q]
        by_cases k : ks n = some .local
        · rw [if_pos k, if_neg q]; rfl
        · rw [if_neg k]; rfl
theorem bindC_eq (ks : Str → Option NameKind) {z : Str} (hz : ks z ≠ some .local) : ∀ (binds : List (Str × Value)) (m : Str → Option Value), bindC ks binds m z = (binds.reverse.lookup z).or (m z)
  | [], m => rfl
  | (n, v) :: r, m => by
    unfold bindC
    rw [bindC_eq ks hz r, List.reverse_cons, lookup_app, lookup_hd]
    cases r.reverse.lookup z with
    | some u => rfl
    | none =>
      by_cases q : z = n
      · subst q
        rw [if_neg hz, if_pos rfl]
        simp
      · rw [if_neg q]
        by_cases k : ks n = some .local
        · rw [if_pos k]; rfl
        · rw [if_neg k, if_neg q]; rfl
theorem lookup_filter {α : Type} (p : Str → Bool) (z : Str) : ∀ (l : List (Str × α)), (l.filter fun q => p q.1).lookup z = if p z = true then l.lookup z else none
  | [] => by simp
  | (k, v) :: l => by
    rw [List.filter_cons]
    by_cases h : p k = true
    · rw [if_pos h, lookup_hd, lookup_hd, lookup_filter p z l]
      by_cases q : z = k
      · subst q; rw [if_pos rfl, if_pos h, if_pos rfl]
      · rw [if_neg q, if_neg q]
    · rw [if_neg h, lookup_filter p z l, lookup_hd]
      by_cases q : z = k
      · subst q; rw [if_neg h, if_neg h]
      · rw [if_neg q]

/-- the first frame of a def with cells: its local names -/
noncomputable def initFmC (ks : Str → Option NameKind) (ps : List Str) (xs : List AV) (locs : List Str) : List (Str × Option AV) := ((ps.zip (xs.map some)).filter fun q => ks q.1 == some .local) ++ locs.map fun n => (n, none)
theorem FrR.initC {W : Wd} {ks : Str → Option NameKind} {ps : List Str} {vs : List Value} {xs : List AV} {locs : List Str} (h : VRs W vs xs) (hl : ps.length = xs.length) (hnd : ps.Nodup) : FrR W (bindL ks (ps.zip vs) fun _ => none) (initFmC ks ps xs locs) := fun z y e => by
  have hf : ((ps.zip vs).map (·.1)).Nodup := by rw [zip_fst (by rw [hl, h.length])]; exact hnd
  unfold initFmC at e
  rw [lookup_app, lookup_filter (fun n => ks n == some .local)] at e
  by_cases hz : (ks z == some .local) = true
  · rw [if_pos hz] at e
    rw [bindL_eq ks (by simpa using hz), lookup_rev hf]
    cases q : (ps.zip (xs.map some)).lookup z with
    | none => rw [q] at e; exact (lookup_locs (by simpa using e)).elim
    | some o =>
      rw [q] at e
      have : o = some y := by simpa using e
      subst this
      obtain ⟨v, h1, h2⟩ := zip_look h q
      exact ⟨v, by rw [h1]; rfl, h2⟩
  · rw [if_neg hz] at e
    exact (lookup_locs (by simpa using e)).elim
/-- the cells of a def: those of its parameters are filled -/
noncomputable def cellObjs (ps : List Str) (xs : List AV) (cn : List Str) : List AO := cn.map fun n => .cell ((ps.zip xs).lookup n)
theorem zip_look2 {W : Wd} : ∀ {ps : List Str} {vs : List Value} {xs : List AV}, VRs W vs xs → ∀ (z : Str), OVR W ((ps.zip vs).lookup z) ((ps.zip xs).lookup z)
  | [], _, _, _, _ => .none
  | p :: ps, _, _, .nil, _ => .none
  | p :: ps, _, _, .cons h1 h2, z => by
    rw [List.zip_cons_cons, List.zip_cons_cons, lookup_hd, lookup_hd]
    by_cases q : z = p
    · rw [if_pos q, if_pos q]; exact .some h1
    · rw [if_neg q, if_neg q]; exact zip_look2 h2 z

noncomputable def cellIdx : List Str → Nat → List (Str × Nat)
  | [], _ => []
  | n :: r, i => (n, i) :: cellIdx r (i + 1)
theorem cellIdx_ok {W : Wd} {pre : List Addr} : ∀ (cs : List (Str × Addr)) (i : Nat), (∀ (j : Nat) (p : Str × Addr), cs[j]? = some p → W.adr[i + j]? = some p.2) → ClR W cs (cellIdx (cs.map (·.1)) i)
  | [], _, _ => fun _ _ e => by cases e
  | (n, a) :: r, i, h => by
    rw [List.map_cons]
    unfold cellIdx
    refine ClR.cons (cellIdx_ok (pre := pre) r (i + 1) fun j p e => ?_) (by simpa using h 0 (n, a) rfl)
    have := h (j + 1) p (by simpa using e)
    rw [show i + 1 + j = i + (j + 1) by omega]; exact this

section
variable {prog : Program} {w : World} {K : Frag} {b : Nat} {c : Cx} {σ σ1 σ2 σ3 : AS} {x y z : AV} {pos apos : Pos}

theorem C_funC {f : Addr} {name qual : Str} {params : Arguments} {body : List Stmt} {scope : Scope} {dV kV doc pm cdv ct oc : Value} {an od : Option Addr} {osl : Array (Option Value)} {xs dx : List AV} {dv : List Value} {ps locs : List Str} {vh vh' : List AO} {fl : AFl} {fm1 : List (Str × Option AV)}
    (ho : K.lookup f = some ⟨oc, od, .func (fnOf name qual params body scope dV kV doc pm an cdv ct), osl⟩) (hcd : codeIn K cdv qual = true)
    (hbind : ∀ (s : Shared) (vs : List Value), K.In s.heap → vs.length = xs.length → BindsTo s (fnOf name qual params body scope dV kV doc pm an cdv ct) ⟨vs, []⟩ (ps.zip (vs ++ dv)))
    (hdv : ∀ W, VRs W dv dx) (hnd : ps.Nodup) (hlen : ps.length = xs.length + dx.length) (hloc : ps.all (fun n => scope.names.lookup n == some .local || scope.names.lookup n == some .cell) = true)
    (hcn : (cellNames scope.names []).Nodup) (hck : (cellNames scope.names []).all (fun n => scope.names.lookup n == some .cell) = true) (hco : scope.isCoroutine = false) (hgen : scope.isGenerator = false) (hk : scope.kind = .function)
    (hbody : TrB prog w K b ⟨scope, cellIdx (cellNames scope.names []) vh.length, none, qual ++ ".<locals>.", cdv⟩ body ⟨initFmC (fun n => scope.names.lookup n) ps (xs ++ dx) locs, vh ++ cellObjs ps (xs ++ dx) (cellNames scope.names [])⟩ fl ⟨fm1, vh'⟩) : TrK prog w K (b + 1) (.ref f) xs vh (retOf fl) vh' := by
  intro ac W fm s R vs O Lv hv hq
  obtain ⟨p, loose, mean, mg, mb, T⟩ := O.top
  have hroom : ac.A.depth < recursionLimit := by have := O.depth; omega
  have hlow := Lv.size_low O
  obtain ⟨m, reals, y⟩ := Lv
  have hvl : (vs ++ dv).length = ps.length := by rw [List.length_append, hlen, hv.length, (hdv W).length]
  have X := O.kin.keeps y.F.keep
  have hnames : (cellsFrom 0 scope.names []).map (·.1) = cellNames scope.names [] := cellNames_eq _ _ _
  refine callX_cells (binds := ps.zip (vs ++ dv)) O.below y.F y.N T.nolimit O.frames O.fr O.kind (X _ _ ho) rfl (codeRec_of X hcd) hroom (hbind s vs X hv.length) (kindsX ?_) (by rw [hnames]; exact hcn) ?_ hco hgen hk
  · rw [List.all_eq_true]
    intro q hq'
    exact List.all_eq_true.mp hloc _ (List.of_mem_zip hq').1
  · intro g L' h₁ tk cells FG F' N' Y B' st lt
    have hvd := hv.append (hdv W)
    have hld : ps.length = (xs ++ dx).length := by rw [List.length_append]; exact hlen
    have hks : (envOfC qual scope L' f cdv).kindOf = fun n => scope.names.lookup n := rfl
    rw [hks] at F' Y
    have hcs : (cellsFrom (L' + 1) scope.names []).map (·.1) = cellNames scope.names [] := cellNames_eq _ _ _
    obtain ⟨hn2, hge⟩ := cellsFrom_addr scope.names (L' + 1) (L' + 1) [] (Nat.le_refl _) (fun p hp => by cases hp) .nil
    have hadr := CellsAre.addrs Y
    have hlt : ∀ a ∈ W.adr, a < L' := fun a ha => by
      obtain ⟨i, hi⟩ := List.getElem?_of_mem ha
      have hil : i < reals.length := by rw [← y.la]; exact (List.getElem?_eq_some_iff.mp hi).1
      exact lt _ (List.mem_append_right _ (zip_get hi (List.getElem?_eq_getElem hil)))
    have hcge : ∀ p ∈ cells, L' + 1 ≤ p.1 := fun p hp => by
      have : p.1 ∈ (cellsFrom (L' + 1) scope.names []).map (·.2) := by rw [← hadr]; exact List.mem_map_of_mem hp
      obtain ⟨q, hq', e⟩ := List.mem_map.mp this
      rw [← e]; exact hge q hq'
    have hL1 : 1 < L' := by
      have h1 := modules_low (T.keeps (h' := g) (fun b o e => st b o e)).nolimit
      exact Nat.lt_of_lt_of_le h1 F'.above
    let W' : Wd := ⟨W.adr ++ cells.map (·.1), W.tups, W.base⟩
    have leW : W.le W' := ⟨fun n a h => by
      show (W.adr ++ cells.map (·.1))[n]? = some a
      rw [List.getElem?_append_left (List.getElem?_eq_some_iff.mp h).1]; exact h, fun _ h => h, rfl⟩
    have hcells : ∀ (i : Nat) (q : Str × Addr), (cellsFrom (L' + 1) scope.names [])[i]? = some q → ∃ o, cells[i]? = some (q.2, o) ∧ o.data = .cell (bindC (fun n => scope.names.lookup n) (ps.zip (vs ++ dv)) (fun _ => none) q.1) := by
      clear leW W' hlt hbody hq hge hn2 hadr hcge hcs N'
      generalize cellsFrom (L' + 1) scope.names [] = cs at Y
      induction Y with
      | nil => intro i q e; simp at e
      | cons h1 _ ih =>
        intro i q e
        cases i with
        | zero => simp at e; subst e; exact ⟨_, rfl, h1⟩
        | succ i => simp at e; obtain ⟨o, e1, e2⟩ := ih i q e; exact ⟨o, by simpa using e1, e2⟩
    have hlenc : cells.length = (cellsFrom (L' + 1) scope.names []).length := by
      have := congrArg List.length hadr
      simpa using this
    have Lv' : Lives prog w ⟨ac.A.deeper (envOfC qual scope L' f cdv), envOfC qual scope L' f cdv, ac.fenv :: ac.outer, ac.A, ac.base, g, L'⟩ W' ⟨initFmC (fun n => scope.names.lookup n) ps (xs ++ dx) locs, vh ++ cellObjs ps (xs ++ dx) (cellNames scope.names [])⟩ h₁ := by
      refine ⟨_, reals ++ cells.map (·.2), F', fun q hq' => ?_, fun q hq' z => ?_, ?_, fun a ha => ?_, ?_, ?_, (FrR.initC hvd hld hnd).mono leW, fun i ob o e1 e2 => ?_, fun i P ps' e => ?_, fun p hp => st _ _ (y.bs p hp)⟩
      · rcases List.mem_append.mp hq' with hq' | hq'
        · exact N' q (List.mem_append_right _ (List.mem_append_left _ hq'))
        · obtain ⟨i, e1, e2⟩ := zip_mem hq'
          change (W.adr ++ cells.map (·.1))[i]? = _ at e1
          rw [List.getElem?_append] at e1 e2
          by_cases hi : i < reals.length
          · rw [if_pos hi] at e2
            rw [if_pos (y.la ▸ hi)] at e1
            exact N' q (List.mem_append_right _ (List.mem_append_right _ (zip_get e1 e2)))
          · rw [if_neg hi] at e2
            rw [if_neg (y.la ▸ hi)] at e1
            rw [y.la] at e1
            rw [List.getElem?_map, Option.map_eq_some_iff] at e1 e2
            obtain ⟨q1, g1, g2⟩ := e1
            obtain ⟨q2, g3, g4⟩ := e2
            rw [g1] at g3
            cases g3
            exact N' q (List.mem_append_left _ (by
              have : q = q1 := Prod.ext g2.symm g4.symm
              rw [this]; exact List.mem_of_getElem? g1))
      · rcases List.mem_append.mp z with z | z
        · exact y.T q hq' z
        · obtain ⟨q1, g1, g2⟩ := List.mem_map.mp z
          have h1 := hcge q1 g1
          have h2 := lt q (List.mem_append_left _ hq')
          rw [g2] at h1
          exact absurd (Nat.lt_of_lt_of_le (Nat.lt_succ_of_lt h2) h1) (Nat.lt_irrefl _)
      · show (W.adr ++ cells.map (·.1)).Nodup
        rw [List.nodup_append]
        refine ⟨y.nd, by rw [hadr]; exact hn2, fun a ha a' ha' => ?_⟩
        obtain ⟨q1, g1, g2⟩ := List.mem_map.mp ha'
        have h1 := hcge q1 g1
        have h2 := hlt a ha
        rw [g2] at h1
        have h1' : L' + 1 ≤ a' := h1
        have h2' : a < L' := h2
        intro z
        rw [z] at h2'
        exact absurd (Nat.lt_of_lt_of_le (Nat.lt_succ_of_lt h2') h1') (Nat.lt_irrefl _)
      · rcases List.mem_append.mp ha with ha | ha
        · exact y.low a ha
        · obtain ⟨q1, g1, g2⟩ := List.mem_map.mp ha
          have h1 := hcge q1 g1
          rw [g2] at h1
          have h1' : L' + 1 ≤ a := h1
          have h2' : 1 < L' := hL1
          exact Nat.lt_of_lt_of_le (Nat.lt_succ_of_lt h2') h1'
      · show (W.adr ++ cells.map (·.1)).length = _
        rw [List.length_append, List.length_append, y.la, List.length_map, List.length_map]
      · show _ = (vh ++ cellObjs ps (xs ++ dx) (cellNames scope.names [])).length
        rw [List.length_append, List.length_append, y.lv, List.length_map, hlenc]
        show _ = vh.length + ((cellNames scope.names []).map _).length
        rw [List.length_map, ← hcs, List.length_map]
      · change (vh ++ cellObjs ps (xs ++ dx) (cellNames scope.names []))[i]? = _ at e2
        rw [List.getElem?_append] at e1 e2
        have hlv : reals.length = vh.length := y.lv
        by_cases hi : i < reals.length
        · rw [if_pos hi] at e1
          rw [if_pos (hlv ▸ hi)] at e2
          exact (y.ob i _ _ e1 e2).mono leW
        · rw [if_neg hi] at e1
          rw [if_neg (hlv ▸ hi), ← hlv] at e2
          unfold cellObjs at e2
          rw [List.getElem?_map, Option.map_eq_some_iff] at e1 e2
          obtain ⟨n, g1, g2⟩ := e2
          obtain ⟨q2, g3, g4⟩ := e1
          rw [← hcs, List.getElem?_map, Option.map_eq_some_iff] at g1
          obtain ⟨q3, g5, g6⟩ := g1
          obtain ⟨o', g7, g8⟩ := hcells _ q3 g5
          rw [g3] at g7
          cases g7
          subst g2
          subst g4
          have hnc : (fun n => scope.names.lookup n) n ≠ some .local := by
            have := List.all_eq_true.mp hck n (by rw [← hcs, ← g6]; exact List.mem_map_of_mem (List.mem_of_getElem? g5))
            simp only [beq_iff_eq] at this
            show scope.names.lookup n ≠ _
            rw [this]; decide
          refine ⟨_, g8, ?_⟩
          rw [g6, bindC_eq _ hnc]
          have hf : ((ps.zip (vs ++ dv)).map (·.1)).Nodup := by rw [zip_fst hvl.symm]; exact hnd
          rw [lookup_rev hf]
          have := (zip_look2 (ps := ps) hvd n).mono leW
          cases q : (ps.zip (vs ++ dv)).lookup n with
          | none => rw [q] at this; exact this
          | some u => rw [q] at this; exact this
      · change (vh ++ cellObjs ps (xs ++ dx) (cellNames scope.names []))[i]? = _ at e
        have hlv : W.adr.length = vh.length := by rw [y.la]; exact y.lv
        show (W.adr ++ cells.map (·.1))[i]? = some P
        rw [List.getElem?_append] at e ⊢
        by_cases hi : i < vh.length
        · rw [if_pos hi] at e
          rw [if_pos (hlv ▸ hi)]
          exact y.tb i P ps' e
        · rw [if_neg hi] at e
          unfold cellObjs at e
          rw [List.getElem?_map, Option.map_eq_some_iff] at e
          obtain ⟨_, _, e⟩ := e
          cases e
    have O' : Ok K b ⟨ac.A.deeper (envOfC qual scope L' f cdv), envOfC qual scope L' f cdv, ac.fenv :: ac.outer, ac.A, ac.base, g, L'⟩ := by
      refine ⟨B', O.kin.keeps st, ⟨p, loose, mean, mg, mb, T.keeps st⟩, Around.frames_deeper O.frames, rfl, hk, O.handled, ?_, ?_⟩
      · show ac.A.depth + 1 + b < recursionLimit
        have := O.depth; omega
      · show ac.A.units + 3 + 64 + 8 * b < cLine
        have := O.units; omega
    have ER : EnvR W' ⟨scope, cellIdx (cellNames scope.names []) vh.length, none, qual ++ ".<locals>.", cdv⟩ ⟨ac.A.deeper (envOfC qual scope L' f cdv), envOfC qual scope L' f cdv, ac.fenv :: ac.outer, ac.A, ac.base, g, L'⟩ (envOfC qual scope L' f cdv) := by
      refine ⟨rfl, rfl, rfl, hk, ?_, rfl, rfl, rfl, rfl⟩
      show ClR W' (cellsFrom (L' + 1) scope.names []) (cellIdx (cellNames scope.names []) vh.length)
      rw [← hcs]
      refine cellIdx_ok (pre := []) _ _ fun j q e => ?_
      obtain ⟨o, g1, g2⟩ := hcells j q e
      show (W.adr ++ cells.map (·.1))[vh.length + j]? = some q.2
      have hl2 : W.adr.length = vh.length := by rw [y.la]; exact y.lv
      rw [List.getElem?_append_right (by omega), hl2, Nat.add_sub_cancel_left, List.getElem?_map, g1]
      rfl
    refine hbody _ _ W' _ _ _ O' ER Lv' fun v W2 h' tk' le L r => ?_
    obtain ⟨m', reals', y'⟩ := L
    refine leaveK_ y'.F y'.N fun F2 N2 => ?_
    exact hq _ W2 h' tk' (leW.trans le) ⟨m, reals', F2, N2, y'.T, y'.nd, y'.low, y'.la, y'.lv, y.fm.mono (leW.trans le), y'.ob, y'.tb, fun p hp => y.bs p ((leW.trans le).2.2 ▸ hp)⟩ r.val
end

theorem lst0 {α : Type} {l : List α} (h : l.length = 0) : l = [] := List.length_eq_zero_iff.mp h
theorem lst1 {α : Type} {l : List α} (h : l.length = 1) : ∃ v0, l = [v0] := by
  cases l with
  | nil => cases h
  | cons a r =>
    have : r = [] := lst0 (Nat.succ.inj h)
    exact ⟨a, by rw [this]⟩
theorem lst2 {α : Type} {l : List α} (h : l.length = 2) : ∃ v0 v1, l = [v0, v1] := by
  cases l with
  | nil => cases h
  | cons a r =>
    obtain ⟨v0, e⟩ := lst1 (Nat.succ.inj h)
    exact ⟨a, v0, by rw [e]⟩
theorem lst3 {α : Type} {l : List α} (h : l.length = 3) : ∃ v0 v1 v2, l = [v0, v1, v2] := by
  cases l with
  | nil => cases h
  | cons a r =>
    obtain ⟨v0, v1, e⟩ := lst2 (Nat.succ.inj h)
    exact ⟨a, v0, v1, by rw [e]⟩
theorem lst4 {α : Type} {l : List α} (h : l.length = 4) : ∃ v0 v1 v2 v3, l = [v0, v1, v2, v3] := by
  cases l with
  | nil => cases h
  | cons a r =>
    obtain ⟨v0, v1, v2, e⟩ := lst3 (Nat.succ.inj h)
    exact ⟨a, v0, v1, v2, by rw [e]⟩
theorem lst5 {α : Type} {l : List α} (h : l.length = 5) : ∃ v0 v1 v2 v3 v4, l = [v0, v1, v2, v3, v4] := by
  cases l with
  | nil => cases h
  | cons a r =>
    obtain ⟨v0, v1, v2, v3, e⟩ := lst4 (Nat.succ.inj h)
    exact ⟨a, v0, v1, v2, v3, by rw [e]⟩
theorem lst6 {α : Type} {l : List α} (h : l.length = 6) : ∃ v0 v1 v2 v3 v4 v5, l = [v0, v1, v2, v3, v4, v5] := by
  cases l with
  | nil => cases h
  | cons a r =>
    obtain ⟨v0, v1, v2, v3, v4, e⟩ := lst5 (Nat.succ.inj h)
    exact ⟨a, v0, v1, v2, v3, v4, by rw [e]⟩
theorem lst7 {α : Type} {l : List α} (h : l.length = 7) : ∃ v0 v1 v2 v3 v4 v5 v6, l = [v0, v1, v2, v3, v4, v5, v6] := by
  cases l with
  | nil => cases h
  | cons a r =>
    obtain ⟨v0, v1, v2, v3, v4, v5, e⟩ := lst6 (Nat.succ.inj h)
    exact ⟨a, v0, v1, v2, v3, v4, v5, by rw [e]⟩
abbrev Fm := List (Str × Option AV)
abbrev VH := List AO

section
variable (prog : Program) (w : World) (K : Frag)
structure WE (b : Nat) (c : Cx) (e : Expr) (fm : Fm) (vh : VH) (Φ : AV → VH → Prop) : Prop where
  out : ∃ x vh', TrE prog w K b c e ⟨fm, vh⟩ x ⟨fm, vh'⟩ ∧ Φ x vh'
structure WT (b : Nat) (c : Cx) (e : Expr) (fm : Fm) (vh : VH) (Φ : Bool → VH → Prop) : Prop where
  out : ∃ x vh', TrT prog w K b c e ⟨fm, vh⟩ x ⟨fm, vh'⟩ ∧ Φ x vh'
structure WL (b : Nat) (c : Cx) (pos : Pos) (es : List Expr) (fm : Fm) (vh : VH) (Φ : List AV → VH → Prop) : Prop where
  out : ∃ x vh', TrL prog w K b c pos es ⟨fm, vh⟩ x ⟨fm, vh'⟩ ∧ Φ x vh'
structure WBo (b : Nat) (c : Cx) (pos : Pos) (op : BoolOp) (es : List Expr) (fm : Fm) (vh : VH) (Φ : AV → VH → Prop) : Prop where
  out : ∃ x vh', TrBo prog w K b c pos op es ⟨fm, vh⟩ x ⟨fm, vh'⟩ ∧ Φ x vh'
structure WAll (b : Nat) (c : Cx) (op : BoolOp) (es : List Expr) (fm : Fm) (vh : VH) (Φ : Bool → VH → Prop) : Prop where
  out : ∃ x vh', TrAll prog w K b c op es ⟨fm, vh⟩ x ⟨fm, vh'⟩ ∧ Φ x vh'
structure WIfs (b : Nat) (c : Cx) (es : List Expr) (fm : Fm) (vh : VH) (Φ : Bool → VH → Prop) : Prop where
  out : ∃ x vh', TrIfs prog w K b c es ⟨fm, vh⟩ x ⟨fm, vh'⟩ ∧ Φ x vh'
structure WP (b : Nat) (c : Cx) (e : Option Expr) (fm : Fm) (vh : VH) (Φ : AV → VH → Prop) : Prop where
  out : ∃ x vh', TrP prog w K b c e ⟨fm, vh⟩ x ⟨fm, vh'⟩ ∧ Φ x vh'
structure WS (b : Nat) (c : Cx) (st : Stmt) (fm : Fm) (vh : VH) (Φ : AFl → Fm → VH → Prop) : Prop where
  out : ∃ f fm' vh', TrS prog w K b c st ⟨fm, vh⟩ f ⟨fm', vh'⟩ ∧ Φ f fm' vh'
structure WB (b : Nat) (c : Cx) (sts : List Stmt) (fm : Fm) (vh : VH) (Φ : AFl → Fm → VH → Prop) : Prop where
  out : ∃ f fm' vh', TrB prog w K b c sts ⟨fm, vh⟩ f ⟨fm', vh'⟩ ∧ Φ f fm' vh'
/-- a call -/
structure WC (b : Nat) (f : Value) (xs : List AV) (vh : VH) (Ψ : AV → VH → Prop) : Prop where
  out : ∃ y vh', TrC prog w K b f xs vh y vh' ∧ Ψ y vh'
/-- the code of a call -/
structure WK (b : Nat) (f : Value) (xs : List AV) (vh : VH) (Ψ : AV → VH → Prop) : Prop where
  out : ∃ y vh', TrK prog w K b f xs vh y vh' ∧ Ψ y vh'
/-- behind a statement -/
structure Then (b : Nat) (c : Cx) (rest : List Stmt) (Φ : AFl → Fm → VH → Prop) (f : AFl) (fm : Fm) (vh : VH) : Prop where
  out : if f.isNext = true then WB prog w K b c rest fm vh Φ else Φ f fm vh
end
/-- a branch -/
structure Br (v : Bool) (A B : Prop) : Prop where
  yes : v = true → A
  no : v = false → B
theorem br_t {A B : Prop} (h : A) : Br true A B := ⟨fun _ => h, fun e => (by cases e)⟩
theorem br_f {A B : Prop} (h : B) : Br false A B := ⟨fun e => (by cases e), fun _ => h⟩
theorem br_i {v : Bool} {A B : Prop} (h1 : v = true → A) (h2 : v = false → B) : Br v A B := ⟨h1, h2⟩

theorem ex_some {α : Type} {o : Option α} {z : α} {G : α → Prop} (h : o = some z) (g : G z) : ∃ z, o = some z ∧ G z := ⟨z, h, g⟩
theorem br_yes {v : Bool} {A B : Prop} (h : v = true) (a : A) : Br v A B := ⟨fun _ => a, fun e => (by rw [h] at e; cases e)⟩
theorem br_no {v : Bool} {A B : Prop} (h : v = false) (a : B) : Br v A B := ⟨fun e => (by rw [h] at e; cases e), fun _ => a⟩
theorem and_eq {α : Type} {a a' : α} {G : Prop} (h : a = a') (g : G) : a = a' ∧ G := ⟨h, g⟩
/-- an attribute of an object -/
structure HasA (K : Frag) (vh : VH) (x : AV) (n : Str) (y : AV) : Prop where
  out : ∃ i d C kvs, x = .ref i ∧ vh[i]? = some (.inst C d) ∧ vh[d]? = some (.ns kvs) ∧ kvs.lookup n = some y ∧ AttrOk K C n ∧ notCon y = true
/-- what stands at an index -/
inductive SubIs (vh : VH) : AV → AV → AV → Prop
  | list {l : Nat} {k : Int} {xs : List AV} {x : AV} (hl : vh[l]? = some (.list xs)) (h0 : 0 ≤ k) (hk : k < 2 ^ 63) (hx : xs[k.toNat]? = some x) : SubIs vh (.ref l) (.int k) x
  | tup {k : Int} {xs : List AV} {x : AV} (h0 : 0 ≤ k) (hk : k < 2 ^ 63) (hx : xs[k.toNat]? = some x) : SubIs vh (.tup xs) (.int k) x
  | str {k : Int} {t : Str} {n : Nat} (h0 : 0 ≤ k) (hk : k < 2 ^ 63) (hx : t.cps[k.toNat]? = some n) : SubIs vh (.str t) (.int k) (.str ⟨#[n]⟩)

section
variable {prog : Program} {w : World} {K : Frag} {b : Nat} {c : Cx} {fm fm1 : Fm} {vh vh1 : VH} {x y z : AV} {pos apos : Pos} {Φ : AV → VH → Prop} {Θ : Bool → VH → Prop} {Λ : List AV → VH → Prop} {Ξ : AFl → Fm → VH → Prop}

theorem WC.mono {f : Value} {xs : List AV} {Ψ Ψ' : AV → VH → Prop} (h : WC prog w K b f xs vh Ψ) (g : ∀ y vh', Ψ y vh' → Ψ' y vh') : WC prog w K b f xs vh Ψ' := by
  obtain ⟨y, v, h1, h2⟩ := h; exact ⟨y, v, h1, g _ _ h2⟩
theorem WC.same {f : Value} {xs : List AV} {Y : AV} {Ψ : AV → VH → Prop} (h : WC prog w K b f xs vh fun y vh' => y = Y ∧ vh' = vh) (g : Ψ Y vh) : WC prog w K b f xs vh Ψ := h.mono fun _ _ ⟨e1, e2⟩ => e1 ▸ e2 ▸ g
theorem WC.same' {f : Value} {xs : List AV} {Y : AV} {V : VH} {Ψ : AV → VH → Prop} (h : WC prog w K b f xs vh fun y vh' => y = Y ∧ vh' = V) (g : Ψ Y V) : WC prog w K b f xs vh Ψ := h.mono fun _ _ ⟨e1, e2⟩ => e1 ▸ e2 ▸ g
theorem cmp_in {D : Nat} {kvs : List (Int × AV)} {a : Int} (hD : vh[D]? = some (.idict kvs)) : cmpop vh .In (.int a) (.ref D) = some (intMapGet kvs a).isSome := by
  show ((vh[D]?).bind AO.idict?).map _ = _
  rw [hD]; rfl
theorem WK.call {f : Value} {xs : List AV} {Ψ : AV → VH → Prop} (h : WK prog w K b f xs vh Ψ) : WC prog w K b f xs vh Ψ := by
  obtain ⟨y, v, h1, h2⟩ := h; exact ⟨y, v, h1.call, h2⟩
theorem wc_of {f : Value} {xs : List AV} {Ψ : AV → VH → Prop} {vh' : VH} (h : TrC prog w K b f xs vh y vh') (g : Ψ y vh') : WC prog w K b f xs vh Ψ := ⟨_, _, h, g⟩

theorem wc_len {l : Nat} {xs : List AV} {Ψ : AV → VH → Prop} (hl : vh[l]? = some (.list xs)) (hz : xs.length ≤ 1000000) (h : Ψ (.int xs.length) vh) : WC prog w K b (.builtin "len") [.ref l] vh Ψ := wc_of (C_len_list hl hz) h
theorem wc_lenS {t : Str} {Ψ : AV → VH → Prop} (hz : t.length ≤ 1000000) (h : Ψ (.int t.length) vh) : WC prog w K b (.builtin "len") [.str t] vh Ψ := wc_of (C_len_str hz) h

theorem we_int {i : Int} {k : Nat} (h : Φ (.int i) vh) : WE prog w K b c (.Constant (.int i) k pos) fm vh Φ := ⟨_, _, E_int, h⟩
theorem we_str {i : Str} {k : Nat} (h : Φ (.str i) vh) : WE prog w K b c (.Constant (.str i) k pos) fm vh Φ := ⟨_, _, E_str, h⟩
theorem we_cbool {i : Bool} {k : Nat} (h : Φ (.bool i) vh) : WE prog w K b c (.Constant (.bool i) k pos) fm vh Φ := ⟨_, _, E_bool, h⟩
theorem we_none {k : Nat} (h : Φ .none vh) : WE prog w K b c (.Constant .none k pos) fm vh Φ := ⟨_, _, E_none, h⟩
theorem we_local {n : Str} (hk : c.kindOf n = some .local) (hl : c.loc = none) (hv : fm.lookup n = some (some x)) (hd : (n == dbg) = false) (h : Φ x vh) : WE prog w K b c (.Name n pos) fm vh Φ := ⟨_, _, E_local hk hl hv hd, h⟩
theorem we_localC {n : Str} {fl : Fm} (hk : c.kindOf n = some .local) (hl : c.loc = some fl) (hv : fl.lookup n = some (some x)) (hd : (n == dbg) = false) (h : Φ x vh) : WE prog w K b c (.Name n pos) fm vh Φ := ⟨_, _, E_localC hk hl hv hd, h⟩
theorem we_cell {n : Str} {k : Nat} (hk : c.kindOf n = some .cell) (hc : c.cells.lookup n = some k) (ho : vh[k]? = some (.cell (some x))) (hd : (n == dbg) = false) (h : Φ x vh) : WE prog w K b c (.Name n pos) fm vh Φ := ⟨_, _, E_cell hk hc ho hd, h⟩
theorem we_free {n : Str} {k : Nat} (hk : c.kindOf n = some .free) (hc : c.cells.lookup n = some k) (ho : vh[k]? = some (.cell (some x))) (hd : (n == dbg) = false) (hcd : (n == cdict) = false) (h : Φ x vh) : WE prog w K b c (.Name n pos) fm vh Φ := ⟨_, _, E_free hk hc ho hd hcd, h⟩
theorem we_glob {n : Str} (hg : GlobIs K n x) (hk : c.kindOf n = some .globalImplicit) (hd : (n == dbg) = false) (h : Φ x vh) : WE prog w K b c (.Name n pos) fm vh Φ := ⟨_, _, E_glob hk hg hd, h⟩
theorem we_bin {op : Operator} {l r : Expr} (h : WE prog w K b c l fm vh fun x vh1 => WE prog w K b c r fm vh1 fun y vh2 => ∃ z, binop op x y = some z ∧ Φ z vh2) : WE prog w K b c (.BinOp l op r pos) fm vh Φ := by
  obtain ⟨x, v1, h1, y, v2, h2, z, h3, h4⟩ := h
  exact ⟨_, _, E_BinOp h1 h2 h3, h4⟩
theorem we_cmp {op : CmpOp} {l r : Expr} (hm : behindInMarks op r = false) (h : WE prog w K b c l fm vh fun x vh1 => WE prog w K b c r fm vh1 fun y vh2 => ∃ z, cmpop vh2 op x y = some z ∧ Φ (.bool z) vh2) : WE prog w K b c (.Compare l [op] [r] pos) fm vh Φ := by
  obtain ⟨x, v1, h1, y, v2, h2, z, h3, h4⟩ := h
  exact ⟨_, _, E_Compare h1 h2 h3 hm, h4⟩
theorem wt_cmp {op : CmpOp} {l r : Expr} (hm : behindInMarks op r = false) (h : WE prog w K b c l fm vh fun x vh1 => WE prog w K b c r fm vh1 fun y vh2 => ∃ z, cmpop vh2 op x y = some z ∧ Θ z vh2) : WT prog w K b c (.Compare l [op] [r] pos) fm vh Θ := by
  obtain ⟨x, v1, h1, y, v2, h2, z, h3, h4⟩ := h
  exact ⟨_, _, T_Compare h1 h2 h3 hm, h4⟩
theorem wt_chain {op1 op2 : CmpOp} {l m r : Expr} (hm : lastMarks [op1, op2] [m, r] = false) (h : WE prog w K b c l fm vh fun x vh1 => WE prog w K b c m fm vh1 fun y vh2 => ∃ z, cmpop vh2 op1 x y = some z ∧ Br z (WE prog w K b c r fm vh2 fun u vh3 => ∃ t, cmpop vh3 op2 y u = some t ∧ Θ t vh3) (Θ false vh2)) : WT prog w K b c (.Compare l [op1, op2] [m, r] pos) fm vh Θ := by
  obtain ⟨x, v1, h1, y, v2, h2, z, h3, h4⟩ := h
  cases z with
  | true =>
    obtain ⟨u, v3, h5, t, h6, h7⟩ := h4.yes rfl
    exact ⟨_, _, T_Chain2 h1 h2 h3 (by rw [if_pos rfl]; exact ⟨u, h5, h6⟩) hm, h7⟩
  | false => exact ⟨_, _, T_Chain2 h1 h2 h3 (by rw [if_neg (by simp)]; exact ⟨rfl, rfl⟩) hm, h4.no rfl⟩
theorem wt_plain {e : Expr} (hp : plainTest e = true) (h : WE prog w K b c e fm vh fun x vh1 => ∃ t, truthyAV x = some t ∧ Θ t vh1) : WT prog w K b c e fm vh Θ := by
  obtain ⟨x, v1, h1, t, h2, h3⟩ := h
  exact ⟨_, _, T_plain h1 h2 hp, h3⟩
theorem wt_not {e : Expr} (h : WT prog w K b c e fm vh fun t vh1 => Θ (!t) vh1) : WT prog w K b c (.UnaryOp .Not e pos) fm vh Θ := by
  obtain ⟨x, v1, h1, h2⟩ := h
  exact ⟨_, _, T_Not h1, h2⟩
theorem we_if {t body orelse : Expr} (h : WT prog w K b c t fm vh fun v vh1 => Br v (WE prog w K b c body fm vh1 Φ) (WE prog w K b c orelse fm vh1 Φ)) : WE prog w K b c (.IfExp t body orelse pos) fm vh Φ := by
  obtain ⟨v, v1, h1, h2⟩ := h
  cases v with
  | true => obtain ⟨x, v2, h3, h4⟩ := h2.yes rfl; exact ⟨_, _, E_IfExp h1 (by rw [if_pos rfl]; exact h3), h4⟩
  | false => obtain ⟨x, v2, h3, h4⟩ := h2.no rfl; exact ⟨_, _, E_IfExp h1 (by rw [if_neg (by simp)]; exact h3), h4⟩
theorem wall_and1 (h : Θ true vh) : WAll prog w K b c .And [] fm vh Θ := ⟨_, _, All_nil, h⟩
theorem wall_or1 (h : Θ false vh) : WAll prog w K b c .Or [] fm vh Θ := ⟨_, _, All_nil, h⟩
theorem wall_and {e : Expr} {rest : List Expr} (h : WT prog w K b c e fm vh fun v vh1 => Br v (WAll prog w K b c .And rest fm vh1 Θ) (Θ false vh1)) : WAll prog w K b c .And (e :: rest) fm vh Θ := by
  obtain ⟨v, v1, h1, h2⟩ := h
  cases v with
  | true => obtain ⟨x, v2, h3, h4⟩ := h2.yes rfl; exact ⟨_, _, All_cons h1 (by rw [if_neg (by simp [stops])]; exact h3), h4⟩
  | false => exact ⟨_, _, All_cons h1 (by rw [if_pos (by simp [stops])]; exact ⟨rfl, rfl⟩), h2.no rfl⟩
theorem wall_or {e : Expr} {rest : List Expr} (h : WT prog w K b c e fm vh fun v vh1 => Br v (Θ true vh1) (WAll prog w K b c .Or rest fm vh1 Θ)) : WAll prog w K b c .Or (e :: rest) fm vh Θ := by
  obtain ⟨v, v1, h1, h2⟩ := h
  cases v with
  | false => obtain ⟨x, v2, h3, h4⟩ := h2.no rfl; exact ⟨_, _, All_cons h1 (by rw [if_neg (by simp [stops])]; exact h3), h4⟩
  | true => exact ⟨_, _, All_cons h1 (by rw [if_pos (by simp [stops])]; exact ⟨rfl, rfl⟩), h2.yes rfl⟩
theorem wt_bool {op : BoolOp} {es : List Expr} (h : WAll prog w K b c op es fm vh Θ) : WT prog w K b c (.BoolOp op es pos) fm vh Θ := by
  obtain ⟨v, v1, h1, h2⟩ := h
  exact ⟨_, _, T_BoolOp h1, h2⟩
theorem wbo_one {op : BoolOp} {e : Expr} (h : WE prog w K b c e fm vh Φ) : WBo prog w K b c pos op [e] fm vh Φ := by
  obtain ⟨v, v1, h1, h2⟩ := h
  exact ⟨_, _, Bo_one h1, h2⟩
theorem wbo_and {e e' : Expr} {rest : List Expr} (h : WE prog w K b c e fm vh fun x vh1 => ∃ t, truthyAV x = some t ∧ Br t (WBo prog w K b c pos .And (e' :: rest) fm vh1 Φ) (Φ x vh1)) : WBo prog w K b c pos .And (e :: e' :: rest) fm vh Φ := by
  obtain ⟨x, v1, h1, t, ht, h2⟩ := h
  cases t with
  | true => obtain ⟨x, v2, h3, h4⟩ := h2.yes rfl; exact ⟨_, _, Bo_cons h1 ht (by rw [if_neg (by simp [stops])]; exact h3), h4⟩
  | false => exact ⟨_, _, Bo_cons h1 ht (by rw [if_pos (by simp [stops])]; exact ⟨rfl, rfl⟩), h2.no rfl⟩
theorem we_bool {op : BoolOp} {es : List Expr} (h : WBo prog w K b c pos op es fm vh Φ) : WE prog w K b c (.BoolOp op es pos) fm vh Φ := by
  obtain ⟨v, v1, h1, h2⟩ := h
  exact ⟨_, _, E_BoolOp h1, h2⟩
theorem we_un {op : UnaryOp} {e : Expr} (h : WE prog w K b c e fm vh fun x vh1 => ∃ y, unop op x = some y ∧ Φ y vh1) : WE prog w K b c (.UnaryOp op e pos) fm vh Φ := by
  obtain ⟨x, v1, h1, y, h2, h3⟩ := h
  exact ⟨_, _, E_UnaryOp h1 h2, h3⟩
theorem wl_nil (h : Λ [] vh) : WL prog w K b c pos [] fm vh Λ := ⟨_, _, L_nil, h⟩
theorem wl_cons {e : Expr} {es : List Expr} (hs : notStarred e = true) (h : WE prog w K b c e fm vh fun x vh1 => WL prog w K b c pos es fm vh1 fun xs vh2 => Λ (x :: xs) vh2) : WL prog w K b c pos (e :: es) fm vh Λ := by
  obtain ⟨x, v1, h1, xs, v2, h2, h3⟩ := h
  exact ⟨_, _, L_cons h1 h2 hs, h3⟩
theorem we_tuple {es : List Expr} {k : Nat} (h : WL prog w K b c pos es fm vh fun xs vh1 => decide (xs.length ≤ 1000) = true ∧ Φ (.tup xs) vh1) : WE prog w K b c (.Tuple es k pos) fm vh Φ := by
  obtain ⟨x, v1, h1, h2, h3⟩ := h
  exact ⟨_, _, E_Tuple h1 (of_decide_eq_true h2), h3⟩
theorem we_list {es : List Expr} (h : WL prog w K b c pos es fm vh fun xs vh1 => decide (xs.length ≤ 1000) = true ∧ Φ (.ref vh1.length) (vh1 ++ [.list xs])) : WE prog w K b c (.List es pos) fm vh Φ := by
  obtain ⟨x, v1, h1, h2, h3⟩ := h
  exact ⟨_, _, E_List h1 (of_decide_eq_true h2), h3⟩
theorem we_dict0 (h : Φ (.ref vh.length) (vh ++ [.idict []])) : WE prog w K b c (.Dict [] [] pos) fm vh Φ := ⟨_, _, E_DictNil, h⟩
/-- a call of a global -/
theorem we_callG {n : Str} {np : Pos} {f : Value} {es : List Expr} (hg : GlobIs K n (.con f)) (hk : KeepOk prog w K f) (hes : es.all notStarred = true) (hkn : c.kindOf n = some .globalImplicit) (hd : (n == dbg) = false)
    (h : WL prog w K b c pos es fm vh fun xs vh1 => WC prog w K b f xs vh1 Φ) : WE prog w K b c (.Call (.Name n np) es [] pos) fm vh Φ := by
  obtain ⟨xs, v1, h1, y, v2, h2, h3⟩ := h
  exact ⟨_, _, E_Call (E_glob hkn hg hd) hk hes h1 h2 rfl, h3⟩
theorem we_meth {o : Expr} {n : Str} {es : List Expr} (hes : es.all notStarred = true) (hb : baseOk o = true) (hl : (apos.endLine == pos.line) = true) (hn : decide (es.length < 30) = true)
    (h : WE prog w K b c o fm vh fun x vh1 => ∃ f, TrM prog w K x n vh1 f ∧ KeepOk prog w K f ∧ WL prog w K b c pos es fm vh1 fun xs vh2 => WC prog w K b f (x :: xs) vh2 Φ) : WE prog w K b c (.Call (.Attribute o n apos) es [] pos) fm vh Φ := by
  obtain ⟨x, v1, h1, f, hm, hk, xs, v2, h2, y, v3, h3, h4⟩ := h
  exact ⟨_, _, E_Method h1 hm hk hes h2 h3 hb hl hn, h4⟩
theorem we_attr {e : Expr} {n : Str} (hb : baseOk e = true) (h : WE prog w K b c e fm vh fun x vh1 => ∃ y, HasA K vh1 x n y ∧ Φ y vh1) : WE prog w K b c (.Attribute e n pos) fm vh Φ := by
  obtain ⟨x, v1, h1, y, ⟨i, d, C, kvs, rfl, q1, q2, q3, q4, q5⟩, h3⟩ := h
  exact ⟨_, _, E_Attr h1 q1 q2 q3 q4 q5 hb, h3⟩
theorem we_sub {value sl : Expr} (hs : notSlice sl = true) (h : WE prog w K b c value fm vh fun x vh1 => WE prog w K b c sl fm vh1 fun i vh2 => ∃ y, SubIs vh2 x i y ∧ Φ y vh2) : WE prog w K b c (.Subscript value sl pos) fm vh Φ := by
  obtain ⟨x, v1, h1, i, v2, h2, y, h3, h4⟩ := h
  cases h3 with
  | list hl h0 hk hx => exact ⟨_, _, E_SubList h1 h2 hl h0 hk hx hs, h4⟩
  | tup h0 hk hx => exact ⟨_, _, E_SubTup h1 h2 h0 hk hx hs, h4⟩
  | str h0 hk hx => exact ⟨_, _, E_SubStr h1 h2 h0 hk hx hs, h4⟩
theorem wp_none (h : Φ .none vh) : WP prog w K b c none fm vh Φ := ⟨_, _, P_none, h⟩
theorem wp_some {e : Expr} (h : WE prog w K b c e fm vh Φ) : WP prog w K b c (some e) fm vh Φ := by
  obtain ⟨x, v1, h1, h2⟩ := h
  exact ⟨_, _, P_some h1, h2⟩
theorem we_sliceL {value : Expr} {lower upper step : Option Expr} {p : Pos} (h : WE prog w K b c value fm vh fun x vh1 => WP prog w K b c lower fm vh1 fun xl vh2 => WP prog w K b c upper fm vh2 fun xu vh3 => WP prog w K b c step fm vh3 fun xst vh4 =>
    ∃ l xs lo hi st, x = .ref l ∧ vh4[l]? = some (.list xs) ∧ partA xl = some lo ∧ partA xu = some hi ∧ partA xst = some st ∧ st ≠ some 0 ∧ xs.length ≤ 1000000 ∧ Φ (.ref vh4.length) (vh4 ++ [.list (pickA (sliceIs lo hi st xs.length) xs)])) :
    WE prog w K b c (.Subscript value (.Slice lower upper step p) pos) fm vh Φ := by
  obtain ⟨x, v1, h1, xl, v2, h2, xu, v3, h3, xst, v4, h4, l, xs, lo, hi, st, rfl, hl, pl, pu, ps, h0, hz, h5⟩ := h
  exact ⟨_, _, E_SliceList h1 h2 h3 h4 pl pu ps h0 hl hz, h5⟩
theorem we_sliceS {value : Expr} {lower : Option Expr} {p : Pos} (h : WE prog w K b c value fm vh fun x vh1 => WP prog w K b c lower fm vh1 fun xl vh2 =>
    ∃ t k t', x = .str t ∧ xl = .int k ∧ ((slicePicked t (some (k, 0)) none none).filterMap (t.cps[·]?)).length ≤ sizeLine ∧ (if ((slicePicked t (some (k, 0)) none none).length == t.length) = true then t else ⟨((slicePicked t (some (k, 0)) none none).filterMap (t.cps[·]?)).toArray⟩) = t' ∧ Φ (.str t') vh2) :
    WE prog w K b c (.Subscript value (.Slice lower none none p) pos) fm vh Φ := by
  obtain ⟨x, v1, h1, xl, v2, h2, t, k, t', rfl, rfl, hz, rfl, h3⟩ := h
  exact ⟨_, _, E_SliceStr h1 h2 hz, h3⟩

/-! statements -/
theorem wb_nil (h : Ξ .next fm vh) : WB prog w K b c [] fm vh Ξ := ⟨_, _, _, B_nil, h⟩
theorem wb_cons {st : Stmt} {rest : List Stmt} (h : WS prog w K b c st fm vh (Then prog w K b c rest Ξ)) : WB prog w K b c (st :: rest) fm vh Ξ := by
  obtain ⟨f, fm1, v1, h1, h2⟩ := h
  have h2 := h2.out
  by_cases q : f.isNext = true
  · rw [if_pos q] at h2
    obtain ⟨f', fm2, v2, h3, h4⟩ := h2
    exact ⟨_, _, _, B_cons h1 (by rw [if_pos q]; exact h3), h4⟩
  · rw [if_neg q] at h2
    exact ⟨f, fm1, v1, B_cons (f' := f) (σ2 := ⟨fm1, v1⟩) h1 (by rw [if_neg q]; exact ⟨rfl, rfl⟩), h2⟩
theorem th_next {rest : List Stmt} (h : WB prog w K b c rest fm vh Ξ) : Then prog w K b c rest Ξ .next fm vh := ⟨by rw [if_pos (show AFl.next.isNext = true from rfl)]; exact h⟩
theorem th_ret {rest : List Stmt} (h : Ξ (.ret x) fm vh) : Then prog w K b c rest Ξ (.ret x) fm vh := ⟨by rw [if_neg (by simp [AFl.isNext])]; exact h⟩
theorem ws_return {e : Expr} (h : WE prog w K b c e fm vh fun x vh1 => Ξ (.ret x) fm vh1) : WS prog w K b c (.Return (some e) pos) fm vh Ξ := by
  obtain ⟨x, v1, h1, h2⟩ := h
  exact ⟨_, _, _, S_Return h1, h2⟩
theorem ws_if {t : Expr} {body orelse : List Stmt} (h : WT prog w K b c t fm vh fun v vh1 => Br v (WB prog w K b c body fm vh1 Ξ) (WB prog w K b c orelse fm vh1 Ξ)) : WS prog w K b c (.If t body orelse pos) fm vh Ξ := by
  obtain ⟨v, v1, h1, h2⟩ := h
  cases v with
  | true => obtain ⟨f, fm2, v2, h3, h4⟩ := h2.yes rfl; exact ⟨_, _, _, S_If h1 (by rw [if_pos rfl]; exact h3), h4⟩
  | false => obtain ⟨f, fm2, v2, h3, h4⟩ := h2.no rfl; exact ⟨_, _, _, S_If h1 (by rw [if_neg (by simp)]; exact h3), h4⟩
theorem ws_expr {e : Expr} (hc : isComp e = false) (h : WE prog w K b c e fm vh fun _ vh1 => Ξ .next fm vh1) : WS prog w K b c (.Expr e pos) fm vh Ξ := by
  obtain ⟨x, v1, h1, h2⟩ := h
  exact ⟨_, _, _, S_Expr h1 hc, h2⟩
/-- a store to a local name -/
theorem set_nil {n : Str} {x : AV} : setFm [] n x = [(n, some x)] := rfl
theorem set_hit {n : Str} {x : AV} {o : Option AV} {r : Fm} : setFm ((n, o) :: r) n x = (n, some x) :: r := by simp [setFm]
theorem set_miss {n k : Str} {x : AV} {o : Option AV} {r r' : Fm} (hn : n ≠ k) (h : setFm r n x = r') : setFm ((k, o) :: r) n x = (k, o) :: r' := by
  rw [setFm, if_neg hn, h]
theorem set_step {n : Str} {fm' : Fm} {G : Fm → Prop} (h : setFm fm n x = fm') (g : G fm') : ∃ fm', setFm fm n x = fm' ∧ G fm' := ⟨_, h, g⟩
theorem ws_name {n : Str} {p : Pos} {value : Expr} (hc : isComp value = false) (hk : c.kindOf n = some .local) (hl : c.loc = none) (h : WE prog w K b c value fm vh fun x vh1 => ∃ fm', setFm fm n x = fm' ∧ Ξ .next fm' vh1) : WS prog w K b c (.Assign [.Name n p] value pos) fm vh Ξ := by
  obtain ⟨x, v1, h1, fm', rfl, h2⟩ := h
  exact ⟨_, _, _, S_AssignName (σ2 := ⟨setFm fm n x, v1⟩) h1 (by unfold storeN; rw [hk, hl]) hc, h2⟩
theorem ws_nameC {n : Str} {p : Pos} {value : Expr} {k : Nat} (hc : isComp value = false) (hk : c.kindOf n = some .cell) (hl : c.cells.lookup n = some k) (h : WE prog w K b c value fm vh fun x vh1 => ∃ o, vh1[k]? = some (.cell o) ∧ Ξ .next fm (vh1.set k (.cell (some x)))) : WS prog w K b c (.Assign [.Name n p] value pos) fm vh Ξ := by
  obtain ⟨x, v1, h1, o, ho, h2⟩ := h
  exact ⟨_, _, _, S_AssignName (σ2 := ⟨fm, v1.set k (.cell (some x))⟩) h1 (by unfold storeN; rw [hk, hl]; show (match v1[k]? with | some (.cell _) => _ | _ => _) = _; rw [ho]) hc, h2⟩
theorem ws_attr {e value : Expr} {n : Str} {p : Pos} (hc : isComp value = false) (h : WE prog w K b c value fm vh fun y vh1 => WE prog w K b c e fm vh1 fun x vh2 => ∃ i d C kvs, x = .ref i ∧ vh2[i]? = some (.inst C d) ∧ vh2[d]? = some (.ns kvs) ∧ SetOk K C n ∧ kvs.length ≤ 900 ∧ Ξ .next fm (vh2.set d (.ns (setKv kvs n y)))) : WS prog w K b c (.Assign [.Attribute e n p] value pos) fm vh Ξ := by
  obtain ⟨y, v1, h1, x, v2, h2, i, d, C, kvs, rfl, q1, q2, q3, q4, h3⟩ := h
  exact ⟨_, _, _, S_AssignAttr h1 h2 q1 q2 q3 q4 hc, h3⟩
theorem ws_subL {o i value : Expr} {p : Pos} (hc : isComp value = false) (h : WE prog w K b c value fm vh fun y vh1 => WE prog w K b c o fm vh1 fun x vh2 => WE prog w K b c i fm vh2 fun j vh3 => ∃ l k xs, x = .ref l ∧ j = .int k ∧ vh3[l]? = some (.list xs) ∧ 0 ≤ k ∧ k < xs.length ∧ k < 2 ^ 63 ∧ Ξ .next fm (vh3.set l (.list (xs.set k.toNat y)))) : WS prog w K b c (.Assign [.Subscript o i p] value pos) fm vh Ξ := by
  obtain ⟨y, v1, h1, x, v2, h2, j, v3, h3, l, k, xs, rfl, rfl, q1, q2, q3, q4, h4⟩ := h
  exact ⟨_, _, _, S_AssignSubList h1 h2 h3 q1 q2 q3 q4 hc, h4⟩
theorem ws_subD {o i value : Expr} {p : Pos} (hc : isComp value = false) (h : WE prog w K b c value fm vh fun y vh1 => WE prog w K b c o fm vh1 fun x vh2 => WE prog w K b c i fm vh2 fun j vh3 => ∃ l k kvs, x = .ref l ∧ j = .int k ∧ vh3[l]? = some (.idict kvs) ∧ kvs.length ≤ 1000000 ∧ Ξ .next fm (vh3.set l (.idict (setIdict kvs k y)))) : WS prog w K b c (.Assign [.Subscript o i p] value pos) fm vh Ξ := by
  obtain ⟨y, v1, h1, x, v2, h2, j, v3, h3, l, k, xs, rfl, rfl, q1, q2, h4⟩ := h
  exact ⟨_, _, _, S_AssignSubDict h1 h2 h3 q1 q2 hc, h4⟩

/-! weaker frames -/
noncomputable def FmLe (fm' fm : Fm) : Prop := ∀ x y, fm'.lookup x = some (some y) → fm.lookup x = some (some y)
theorem fl_nil {fm : Fm} : FmLe [] fm := fun _ _ e => by cases e
theorem fl_cons {n : Str} {o : AV} {r fm : Fm} (h : fm.lookup n = some (some o)) (h2 : FmLe r fm) : FmLe ((n, some o) :: r) fm := fun x y e => by
  rw [lookup_hd] at e
  split at e
  · rename_i q; cases e; subst q; exact h
  · exact h2 x y e
theorem fl_refl {fm : Fm} : FmLe fm fm := fun _ _ e => e
theorem look_hit {α : Type} {n : Str} {o : α} {r : List (Str × α)} : List.lookup n ((n, o) :: r) = some o := by rw [lookup_hd, if_pos rfl]
theorem look_miss {α : Type} {n k : Str} {o : α} {v : Option α} {r : List (Str × α)} (hn : n ≠ k) (h : r.lookup n = v) : List.lookup n ((k, o) :: r) = v := by rw [lookup_hd, if_neg hn, h]
theorem look_nil {α : Type} {n : Str} : List.lookup n ([] : List (Str × α)) = none := rfl
theorem Lives.weak {ac : Act} {W : Wd} {h : Heap} {fm' : Fm} (Lv : Lives prog w ac W ⟨fm, vh⟩ h) (hle : FmLe fm' fm) : Lives prog w ac W ⟨fm', vh⟩ h := by
  obtain ⟨m, reals, y⟩ := Lv
  exact ⟨m, reals, y.F, y.N, y.T, y.nd, y.low, y.la, y.lv, fun x y' e => y.fm x y' (hle x y' e), y.ob, y.tb, y.bs⟩
theorem WB.weak {sts : List Stmt} {fm' : Fm} (hle : FmLe fm' fm) (h : WB prog w K b c sts fm' vh Ξ) : WB prog w K b c sts fm vh Ξ := by
  obtain ⟨f, fm1, v1, h1, h2⟩ := h
  exact ⟨f, fm1, v1, fun ac env W s Q E O ER Lv hq => h1 ac env W s Q E O ER (Lv.weak hle) hq, h2⟩
theorem tr_weak {α β : Type} {RR : Wd → α → β → Prop} {t : Env → Sem α} {fm' : Fm} {y : β} {σ' : AS} (hle : FmLe fm' fm) (h : Tr prog w K RR b c t ⟨fm', vh⟩ y σ') : Tr prog w K RR b c t ⟨fm, vh⟩ y σ' := fun ac env W s Q E O ER Lv hq => h ac env W s Q E O ER (Lv.weak hle) hq
theorem tr_weakP {α β : Type} {RR : Wd → α → β → Prop} {t : Env → Sem α} {fm' : Fm} {y : β} {σ : AS} (hle : FmLe fm' fm) (h : Tr prog w K RR b c t σ y ⟨fm, vh⟩) : Tr prog w K RR b c t σ y ⟨fm', vh⟩ := fun ac env W s Q E O ER Lv hq => h ac env W s Q E O ER Lv fun v W' h' tk le L r => hq v W' h' tk le (L.weak hle) r

/-! loops -/
theorem ws_while {α : Type} (st : α → Fm) (hp : α → VH) (I : α → Prop) (μ : α → Nat) (a0 : α) {test : Expr} {body : List Stmt} (h0 : I a0) (hfm : FmLe (st a0) fm) (hvh : hp a0 = vh)
    (step : ∀ a, I a → WT prog w K b c test (st a) (hp a) fun v vh1 => Br v (WB prog w K b c body (st a) vh1 fun f fm2 vh2 => (f = .next ∧ ∃ a', I a' ∧ μ a' < μ a ∧ FmLe (st a') fm2 ∧ hp a' = vh2) ∨ (∃ x, f = .ret x) ∧ Ξ f fm2 vh2) (Ξ .next (st a) vh1)) :
    WS prog w K b c (.While test body [] pos) fm vh Ξ := by
  have main : ∀ (k : Nat) (a : α), μ a ≤ k → I a → ∃ n f fm' vh', WRun prog w K b c test body n ⟨st a, hp a⟩ f ⟨fm', vh'⟩ ∧ Ξ f fm' vh' := by
    intro k
    induction k with
    | zero =>
      intro a hk ha
      obtain ⟨v, v1, h1, h2⟩ := step a ha
      cases v with
      | false => exact ⟨_, _, _, _, .done h1, h2.no rfl⟩
      | true =>
        obtain ⟨f, fm2, v2, h3, h4⟩ := h2.yes rfl
        rcases h4 with ⟨rfl, a', q1, q2, q3, rfl⟩ | ⟨⟨x, rfl⟩, h4⟩
        · exact absurd q2 (by omega)
        · exact ⟨_, _, _, _, .ret h1 h3, h4⟩
    | succ k ih =>
      intro a hk ha
      obtain ⟨v, v1, h1, h2⟩ := step a ha
      cases v with
      | false => exact ⟨_, _, _, _, .done h1, h2.no rfl⟩
      | true =>
        obtain ⟨f, fm2, v2, h3, h4⟩ := h2.yes rfl
        rcases h4 with ⟨rfl, a', q1, q2, q3, rfl⟩ | ⟨⟨x, rfl⟩, h4⟩
        · obtain ⟨n, f, fm3, v3, h5, h6⟩ := ih a' (by omega) q1
          exact ⟨_, _, _, _, .step h1 (tr_weakP q3 h3) h5, h6⟩
        · exact ⟨_, _, _, _, .ret h1 h3, h4⟩
  obtain ⟨n, f, fm', vh', h1, h2⟩ := main _ a0 (Nat.le_refl _) h0
  subst hvh
  exact ⟨f, fm', vh', tr_weak hfm (S_While h1), h2⟩

/-- a store of x into a target -/
structure WA (prog : Program) (w : World) (K : Frag) (b : Nat) (c : Cx) (t : Expr) (x : AV) (fm : Fm) (vh : VH) (Φ : Fm → VH → Prop) : Prop where
  out : ∃ fm' vh', TrA prog w K b c t ⟨fm, vh⟩ x ⟨fm', vh'⟩ ∧ Φ fm' vh'
theorem wa_name {n : Str} {Φ : Fm → VH → Prop} (hk : c.kindOf n = some .local) (hl : c.loc = none) (h : ∃ fm', setFm fm n x = fm' ∧ Φ fm' vh) : WA prog w K b c (.Name n pos) x fm vh Φ := by
  obtain ⟨fm', rfl, h⟩ := h
  exact ⟨setFm fm n x, vh, A_Name (σ1 := ⟨setFm fm n x, vh⟩) (by unfold storeN; rw [hk, hl]), h⟩
theorem ws_for {α : Type} (st : α → Fm) (hp : α → VH) (I : List AV → α → Prop) (a0 : α) {target iter : Expr} {body : List Stmt}
    (hs : ∀ env x, foldedSetIterable iter env x = pure x)
    (h : WE prog w K b c iter fm vh fun x vh1 => ∃ P xs, IterOk prog w x P xs ∧ I xs a0 ∧ FmLe (st a0) fm ∧ hp a0 = vh1 ∧
      (∀ xs a, I xs a → P ⟨st a, hp a⟩) ∧
      (∀ a, I [] a → Ξ .next (st a) (hp a)) ∧
      (∀ y ys a, I (y :: ys) a → WA prog w K b c target y (st a) (hp a) fun fm1 vh1 => WB prog w K b c body fm1 vh1 fun f fm2 vh2 => (f = .next ∧ ∃ a', I ys a' ∧ FmLe (st a') fm2 ∧ hp a' = vh2) ∨ (∃ x, f = .ret x) ∧ Ξ f fm2 vh2)) :
    WS prog w K b c (.For target iter body [] pos) fm vh Ξ := by
  obtain ⟨x, v1, h1, P, xs, hi, h0, hfm, rfl, hP, hd, step⟩ := h
  have main : ∀ (ys : List AV) (a : α), I ys a → ∃ f fm' vh', FRun prog w K b c target body P ys ⟨st a, hp a⟩ f ⟨fm', vh'⟩ ∧ Ξ f fm' vh' := by
    intro ys
    induction ys with
    | nil => intro a ha; exact ⟨_, _, _, .done (hP _ a ha), hd a ha⟩
    | cons y ys ih =>
      intro a ha
      obtain ⟨fm1, v1, h2, f, fm2, v2, h3, h4⟩ := step y ys a ha
      rcases h4 with ⟨rfl, a', q1, q3, rfl⟩ | ⟨⟨x, rfl⟩, h4⟩
      · obtain ⟨f, fm3, v3, h5, h6⟩ := ih a' q1
        exact ⟨_, _, _, .step (hP _ a ha) h2 (tr_weakP q3 h3) h5, h6⟩
      · exact ⟨_, _, _, .ret (hP _ a ha) h2 h3, h4⟩
  obtain ⟨f, fm', vh', h2, h3⟩ := main xs a0 h0
  exact ⟨f, fm', vh', S_For (tr_weakP hfm h1) hi h2 hs, h3⟩

/-! comprehensions -/
theorem wi_nil (h : Θ true vh) : WIfs prog w K b c [] fm vh Θ := ⟨_, _, Ifs_nil, h⟩
theorem wi_one {t : Expr} (h : WT prog w K b c t fm vh Θ) : WIfs prog w K b c [t] fm vh Θ := by
  obtain ⟨x, v1, h1, h2⟩ := h
  exact ⟨_, _, Ifs_one h1, h2⟩
structure WCR (prog : Program) (w : World) (K : Frag) (b : Nat) (c : Cx) (sc : Scope) (cl : List (Str × Nat)) (n : Str) (ifs : List Expr) (elt : Expr) (l : Nat) (P : AS → Prop) (xs : List AV) (fm : Fm) (vh : VH) (Φ : VH → Prop) : Prop where
  out : ∃ vh', CRun prog w K b c sc cl n ifs elt l P xs ⟨fm, vh⟩ ⟨fm, vh'⟩ ∧ Φ vh'
variable {sc : Scope} {cl : List (Str × Nat)} {n : Str} {ifs : List Expr} {elt : Expr} {l : Nat} {P : AS → Prop} {xs : List AV}
theorem wcr_nil {Φ : VH → Prop} (hP : P ⟨fm, vh⟩) (h : Φ vh) : WCR prog w K b c sc cl n ifs elt l P [] fm vh Φ := ⟨_, .done hP, h⟩
theorem wcr_cons {Φ : VH → Prop} (hP : P ⟨fm, vh⟩) (h : WIfs prog w K b (c.comp sc cl n x) ifs fm vh fun v vh1 => Br v (WE prog w K b (c.comp sc cl n x) elt fm vh1 fun y vh2 => ∃ zs, vh2[l]? = some (.list zs) ∧ zs.length ≤ 1000000 ∧ WCR prog w K b c sc cl n ifs elt l P xs fm (vh2.set l (.list (zs ++ [y]))) Φ) (WCR prog w K b c sc cl n ifs elt l P xs fm vh1 Φ)) : WCR prog w K b c sc cl n ifs elt l P (x :: xs) fm vh Φ := by
  obtain ⟨v, v1, h1, h2⟩ := h
  cases v with
  | true =>
    obtain ⟨y, v2, h3, zs, q1, q2, v3, h4, h5⟩ := h2.yes rfl
    exact ⟨_, .take hP h1 h3 q1 q2 h4, h5⟩
  | false =>
    obtain ⟨v3, h4, h5⟩ := h2.no rfl
    exact ⟨_, .skip hP h1 h4, h5⟩
/-- a comprehension whose parts change nothing -/
theorem wcr_pure {Φ : VH → Prop} (g : AV → Option AV) (hl : l = vh.length) (hP : ∀ zs, P ⟨fm, vh ++ [.list zs]⟩) {zs : List AV} (hz : zs.length + xs.length ≤ 1000000)
    (H : ∀ x ∈ xs, ∀ zs, WIfs prog w K b (c.comp sc cl n x) ifs fm (vh ++ [.list zs]) fun v vh1 => vh1 = vh ++ [.list zs] ∧ Br v (WE prog w K b (c.comp sc cl n x) elt fm (vh ++ [.list zs]) fun y vh2 => vh2 = vh ++ [.list zs] ∧ g x = some y) (g x = none))
    (h : Φ (vh ++ [.list (zs ++ xs.filterMap g)])) : WCR prog w K b c sc cl n ifs elt l P xs fm (vh ++ [.list zs]) Φ := by
  induction xs generalizing zs with
  | nil => exact wcr_nil (hP _) (by simpa using h)
  | cons x xs ih =>
    refine wcr_cons (hP _) ?_
    obtain ⟨v, v1, h1, rfl, h2⟩ := H x (.head _) zs
    rw [List.length_cons] at hz
    refine ⟨v, _, h1, fun e => ?_, fun e => ?_⟩
    · subst e
      obtain ⟨y, v2, h3, rfl, h4⟩ := h2.yes rfl
      refine ⟨y, _, h3, zs, by rw [hl]; simp, by omega, ?_⟩
      have e1 : (vh ++ [AO.list zs]).set l (.list (zs ++ [y])) = vh ++ [.list (zs ++ [y])] := by rw [hl]; simp
      rw [e1]
      refine ih (by rw [List.length_append, List.length_singleton]; omega) (fun x hx => H x (.tail _ hx)) ?_
      rw [List.filterMap_cons, h4] at h
      simpa using h
    · have h4 := h2.no e
      refine ih (by omega) (fun x hx => H x (.tail _ hx)) ?_
      rw [List.filterMap_cons, h4] at h
      exact h
theorem we_comp {iter : Expr} {tp : Pos} (ho : compOk c sc n = some cl) (hs : ∀ env x, foldedSetIterable iter env x = pure x)
    (h : WE prog w K b c iter fm vh fun x vh1 => ∃ P xs, IterOk prog w x P xs ∧ P ⟨fm, vh1⟩ ∧ WCR prog w K b c sc cl n ifs elt vh1.length P xs fm (vh1 ++ [.list []]) (fun vh2 => Φ (.ref vh1.length) vh2)) :
    WE prog w K b c (.ListComp elt [⟨.Name n tp, iter, ifs, 0⟩] sc pos) fm vh Φ := by
  obtain ⟨x, v1, h1, P, xs, hi, hP, v2, h2, h3⟩ := h
  exact ⟨_, _, E_ListComp h1 hi hP (compOk_ok ho) h2 hs, h3⟩
theorem ws_comp {iter : Expr} {tp np spos : Pos} {m : Str} (ho : compOk c sc n = some cl) (hs : ∀ env x, foldedSetIterable iter env x = pure x) (hn : c.kindOf m = some .local) (hl : c.loc = none) (hline : (np.line == pos.line) = true) (hno : (sc.names.any fun (q, k) => q == m && (k == .local || k == .cell)) = false)
    (h : WE prog w K b c iter fm vh fun x vh1 => ∃ P xs, IterOk prog w x P xs ∧ P ⟨fm, vh1⟩ ∧ WCR prog w K b c sc cl n ifs elt vh1.length P xs fm (vh1 ++ [.list []]) (fun vh2 => ∃ fm', setFm fm m (.ref vh1.length) = fm' ∧ Ξ .next fm' vh2)) :
    WS prog w K b c (.Assign [.Name m np] (.ListComp elt [⟨.Name n tp, iter, ifs, 0⟩] sc pos) spos) fm vh Ξ := by
  obtain ⟨x, v1, h1, P, xs, hi, hP, v2, h2, fm', rfl, h3⟩ := h
  exact ⟨_, _, _, S_AssignComp (σ3 := ⟨setFm fm m (.ref v1.length), v2⟩) h1 hi hP (compOk_ok ho) h2 hs (by unfold storeN; rw [hn, hl]) hn hline hno, h3⟩

theorem hasA_of {i d : Nat} {C : Addr} {kvs : List (Str × AV)} {n : Str} (h1 : vh[i]? = some (.inst C d)) (h2 : vh[d]? = some (.ns kvs)) (ha : AttrOk K C n) (h3 : kvs.lookup n = some y) (hc : notCon y = true) : HasA K vh (.ref i) n y := ⟨⟨i, d, C, kvs, rfl, h1, h2, h3, ha, hc⟩⟩
theorem ex_has {i d : Nat} {C : Addr} {kvs : List (Str × AV)} {n : Str} {G : AV → Prop} (h1 : vh[i]? = some (.inst C d)) (h2 : vh[d]? = some (.ns kvs)) (ha : AttrOk K C n) (h3 : kvs.lookup n = some y) (hc : notCon y = true) (g : G y) : ∃ y, HasA K vh (.ref i) n y ∧ G y := ⟨y, hasA_of h1 h2 ha h3 hc, g⟩
theorem get_left {e : VH} {i : Nat} {o : AO} (h : vh[i]? = some o) : (vh ++ e)[i]? = some o := by
  rw [List.getElem?_append_left (List.getElem?_eq_some_iff.mp h).1]; exact h
theorem get_last {o : AO} {r : VH} : (vh ++ o :: r)[vh.length]? = some o := by simp
theorem get_ne {i j : Nat} {o o' : AO} (hn : j ≠ i) (h : vh[i]? = some o) : (vh.set j o')[i]? = some o := by
  rw [List.getElem?_set_ne hn]; exact h
theorem get_hit {i : Nat} {o o' : AO} (h : vh[i]? = some o) : (vh.set i o')[i]? = some o' := by
  rw [List.getElem?_set_self (List.getElem?_eq_some_iff.mp h).1]

/-! calls of own functions -/
theorem wk_fun {f : Addr} {name qual : Str} {params : Arguments} {body : List Stmt} {scope : Scope} {dV kV doc pm cdv ct oc : Value} {an od : Option Addr} {osl : Array (Option Value)} {xs dx : List AV} {dv : List Value} {ps : List Str} {Ψ : AV → VH → Prop}
    (ho : K.lookup f = some ⟨oc, od, .func (fnOf name qual params body scope dV kV doc pm an cdv ct), osl⟩) (hcd : codeIn K cdv qual = true)
    (hbind : ∀ (s : Shared) (vs : List Value), K.In s.heap → vs.length = xs.length → BindsTo s (fnOf name qual params body scope dV kV doc pm an cdv ct) ⟨vs, []⟩ (ps.zip (vs ++ dv)))
    (hdv : ∀ W, VRs W dv dx) (hnd : ps.Nodup) (hlen : ps.length = xs.length + dx.length) (hloc : ps.all (fun n => decide (scope.names.lookup n = some .local)) = true)
    (hcell : (scope.names.all fun x => x.2 != .cell) = true) (hco : scope.isCoroutine = false) (hgen : scope.isGenerator = false) (hk : scope.kind = .function)
    (hbody : WB prog w K b ⟨scope, [], none, qual ++ ".<locals>.", cdv⟩ body (ps.zip ((xs ++ dx).map some)) vh fun fl _ vh' => Ψ (retOf fl) vh') : WK prog w K (b + 1) (.ref f) xs vh Ψ := by
  obtain ⟨fl, fm', vh', h1, h2⟩ := hbody
  refine ⟨_, _, C_fun (locs := []) (dv := dv) (dx := dx) ho hcd hbind hdv hnd hlen hloc (fun x hx => ?_) hco hgen hk (by unfold initFm; rw [List.map_nil, List.append_nil]; exact h1), h2⟩
  have := List.all_eq_true.mp hcell x hx
  simpa using this
theorem wk_funC {f : Addr} {name qual : Str} {params : Arguments} {body : List Stmt} {scope : Scope} {dV kV doc pm cdv ct oc : Value} {an od : Option Addr} {osl : Array (Option Value)} {xs dx : List AV} {dv : List Value} {ps : List Str} {Ψ : AV → VH → Prop} (cn : List Str) (co : VH) (fm0 : Fm) (cl : List (Str × Nat))
    (ho : K.lookup f = some ⟨oc, od, .func (fnOf name qual params body scope dV kV doc pm an cdv ct), osl⟩) (hcd : codeIn K cdv qual = true)
    (hbind : ∀ (s : Shared) (vs : List Value), K.In s.heap → vs.length = xs.length → BindsTo s (fnOf name qual params body scope dV kV doc pm an cdv ct) ⟨vs, []⟩ (ps.zip (vs ++ dv)))
    (hdv : ∀ W, VRs W dv dx) (hnd : ps.Nodup) (hlen : ps.length = xs.length + dx.length) (hloc : ps.all (fun n => scope.names.lookup n == some .local || scope.names.lookup n == some .cell) = true)
    (hcs : cellNames scope.names [] = cn) (hcn : cn.Nodup) (hck : cn.all (fun n => scope.names.lookup n == some .cell) = true) (hco : scope.isCoroutine = false) (hgen : scope.isGenerator = false) (hk : scope.kind = .function)
    (hcl : cellIdx cn vh.length = cl) (hfm : initFmC (fun n => scope.names.lookup n) ps (xs ++ dx) [] = fm0) (hob : cellObjs ps (xs ++ dx) cn = co)
    (hbody : WB prog w K b ⟨scope, cl, none, qual ++ ".<locals>.", cdv⟩ body fm0 (vh ++ co) fun fl _ vh' => Ψ (retOf fl) vh') : WK prog w K (b + 1) (.ref f) xs vh Ψ := by
  subst hcs hcl hfm hob
  obtain ⟨fl, fm', vh', h1, h2⟩ := hbody
  exact ⟨_, _, C_funC (locs := []) (dv := dv) (dx := dx) ho hcd hbind hdv hnd hlen hloc hcn hck hco hgen hk h1, h2⟩
theorem wk_new {C fI : Addr} {xs : List AV} {Ψ : AV → VH → Prop} (hm : makesIn K C = true) (hi : findIn K (.ref C) "__init__" = some (some (.ref fI))) (hf : typeIn K (.ref fI) = some (.type "function"))
    (h : WK prog w K b (.ref fI) (.ref (vh.length + 1) :: xs) (vh ++ [.ns [], .inst C vh.length]) fun y vh' => y = .none ∧ Ψ (.ref (vh.length + 1)) vh') : WK prog w K (b + 1) (.ref C) xs vh Ψ := by
  obtain ⟨y, vh', h1, rfl, h2⟩ := h
  exact ⟨_, _, C_new hm hi hf (by rw [List.append_assoc]; exact h1), h2⟩
end

section
variable (prog : Program) (w : World) (K : Frag)
structure WAs (b : Nat) (c : Cx) (es : List Expr) (ys : List AV) (fm : Fm) (vh : VH) (Φ : Fm → VH → Prop) : Prop where
  out : ∃ fm' vh', StAll prog w K b c (es.map fun t env v => assign t env v) ⟨fm, vh⟩ ys ⟨fm', vh'⟩ ∧ es.all plainTarget = true ∧ Φ fm' vh'
/-- the stores to names, one after the other -/
structure WNs (b : Nat) (c : Cx) (ns : List Str) (ys : List AV) (fm : Fm) (vh : VH) (Φ : Fm → VH → Prop) : Prop where
  out : ∃ fm' vh', StAll prog w K b c (ns.map fun n env v => bindName env n v) ⟨fm, vh⟩ ys ⟨fm', vh'⟩ ∧ Φ fm' vh'
structure WF (b : Nat) (c : Cx) (target : Expr) (body : List Stmt) (P : AS → Prop) (xs : List AV) (fm : Fm) (vh : VH) (Ξ : AFl → Fm → VH → Prop) : Prop where
  out : ∃ f fm' vh', FRun prog w K b c target body P xs ⟨fm, vh⟩ f ⟨fm', vh'⟩ ∧ Ξ f fm' vh'
structure FThen (b : Nat) (c : Cx) (target : Expr) (body : List Stmt) (P : AS → Prop) (xs : List AV) (Ξ : AFl → Fm → VH → Prop) (f : AFl) (fm : Fm) (vh : VH) : Prop where
  out : (f = .next ∧ WF prog w K b c target body P xs fm vh Ξ) ∨ (∃ x, f = .ret x) ∧ Ξ f fm vh
end
section
variable {prog : Program} {w : World} {K : Frag} {b : Nat} {c : Cx} {fm fm1 : Fm} {vh vh1 : VH} {x y z : AV} {pos apos : Pos} {Φ : Fm → VH → Prop} {Ξ : AFl → Fm → VH → Prop}

theorem was_nil (h : Φ fm vh) : WAs prog w K b c [] [] fm vh Φ := ⟨_, _, .nil _, rfl, h⟩
theorem was_name {n : Str} {p : Pos} {es : List Expr} {ys : List AV} (hk : c.kindOf n = some .local) (hl : c.loc = none) (h : ∃ fm', setFm fm n y = fm' ∧ WAs prog w K b c es ys fm' vh Φ) : WAs prog w K b c (.Name n p :: es) (y :: ys) fm vh Φ := by
  obtain ⟨_, rfl, fm', vh', h1, h2, h3⟩ := h
  exact ⟨_, _, .cons (A_Name (σ1 := ⟨setFm fm n y, vh⟩) (by unfold storeN; rw [hk, hl])) h1, by rw [List.all_cons, h2]; rfl, h3⟩
theorem was_cell {n : Str} {p : Pos} {k : Nat} {o : Option AV} {es : List Expr} {ys : List AV} (hk : c.kindOf n = some .cell) (hl : c.cells.lookup n = some k) (ho : vh[k]? = some (.cell o)) (h : WAs prog w K b c es ys fm (vh.set k (.cell (some y))) Φ) : WAs prog w K b c (.Name n p :: es) (y :: ys) fm vh Φ := by
  obtain ⟨fm', vh', h1, h2, h3⟩ := h
  exact ⟨_, _, .cons (A_Name (σ1 := ⟨fm, vh.set k (.cell (some y))⟩) (by unfold storeN; rw [hk, hl]; show (match vh[k]? with | some (.cell _) => _ | _ => _) = _; rw [ho])) h1, by rw [List.all_cons, h2]; rfl, h3⟩
theorem wa_tuple {es : List Expr} {k : Nat} {ys : List AV} (h : WAs prog w K b c es ys fm vh Φ) : WA prog w K b c (.Tuple es k pos) (.tup ys) fm vh Φ := by
  obtain ⟨fm', vh', h1, h2, h3⟩ := h
  exact ⟨_, _, A_Tuple h1 h2, h3⟩
theorem wn_nil (h : Φ fm vh) : WNs prog w K b c [] [] fm vh Φ := ⟨_, _, .nil _, h⟩
theorem wn_name {n : Str} {es : List Str} {ys : List AV} (hk : c.kindOf n = some .local) (hl : c.loc = none) (h : ∃ fm', setFm fm n y = fm' ∧ WNs prog w K b c es ys fm' vh Φ) : WNs prog w K b c (n :: es) (y :: ys) fm vh Φ := by
  obtain ⟨_, rfl, fm', vh', h1, h3⟩ := h
  refine ⟨_, _, .cons (σ1 := ⟨setFm fm n y, vh⟩) (fun ac env W s Q E v O ER Lv hv hq => wpAny_bindName ?_) h1, h3⟩
  exact store_ok (σ1 := ⟨setFm fm n y, vh⟩) (by unfold storeN; rw [hk, hl]) ac env W s Q E v O ER Lv hv hq

theorem ws_tup {es : List Expr} {k : Nat} {tp : Pos} {value : Expr} (hc : isComp value = false) (hw : ∀ env : Env, env.scope = c.scope → swappedStores [.Tuple es k tp] value env = pure none)
    (h : WE prog w K b c value fm vh fun x vh1 => ∃ ys, x = .tup ys ∧ WAs prog w K b c es ys fm vh1 (Ξ .next)) : WS prog w K b c (.Assign [.Tuple es k tp] value pos) fm vh Ξ := by
  obtain ⟨x, v1, h1, ys, rfl, fm', vh', h2, h3, h4⟩ := h
  refine ⟨.next, fm', vh', fun ac env W s Q E O ER Lv hq => ?_, h4⟩
  refine Assign_Tuple (h1 ac env W s _ E O ER Lv fun v1' W1 h1' tk1 le1 Lv1 r1 => ?_) (show swapsWithSole _ _ _ _ = _ from swaps_none (t := some (.Tuple es k tp)) (l := pos.line) (env := env) hc) (hw env ER.scope)
  exact A_Tuple (pos := tp) (k := k) h2 h3 ac env W1 _ _ E v1' O (ER.mono le1) Lv1 r1 fun W2 h2' tk2 le2 Lv2 => hq _ W2 h2' tk2 (le1.trans le2) Lv2 .next
theorem ws_tupS {es : List Expr} {k : Nat} {tp : Pos} {value : Expr} (names : List Str) (hc : isComp value = false) (hw : ∀ env : Env, env.scope = c.scope → swappedStores [.Tuple es k tp] value env = pure (some names))
    (h : WE prog w K b c value fm vh fun x vh1 => ∃ ys, x = .tup ys ∧ ys.length = names.length ∧ WNs prog w K b c names.reverse ys.reverse fm vh1 (Ξ .next)) : WS prog w K b c (.Assign [.Tuple es k tp] value pos) fm vh Ξ := by
  obtain ⟨x, v1, h1, ys, rfl, hlen, fm', vh', h2, h4⟩ := h
  refine ⟨.next, fm', vh', fun ac env W s Q E O ER Lv hq => ?_, h4⟩
  refine Assign_Tuple_swapped (h1 ac env W s _ E O ER Lv fun v1' W1 h1' tk1 le1 Lv1 r1 => ?_) (show swapsWithSole _ _ _ _ = _ from swaps_none (t := some (.Tuple es k tp)) (l := pos.line) (env := env) hc) (hw env ER.scope)
  obtain ⟨a, vs, e, q, hm, hvs⟩ := r1.inv
  · rw [q]
    have hsz : names.length = vs.toArray.size := by rw [List.size_toArray, hvs.length, hlen]
    rw [hsz]
    refine wpAny_unpackItems_tuple O.handled (Lv1.isTuple hm) fun h' hx => ?_
    have := h2.ok ac env W1 { s with heap := h', toks := tk1 } (fun _ => Q .next) E vs.reverse O (ER.mono le1) (Lv1.grow (ext_grow hx)) hvs.reverse fun W2 h2' tk2 le2 Lv2 => hq _ W2 h2' tk2 (le1.trans le2) Lv2 .next
    rw [List.map_map] at this
    exact this

theorem wb_cut {α : Type} (st : α → Fm) (hp : α → VH) (I : α → Prop) {s0 : Stmt} {rest : List Stmt} (h : WS prog w K b c s0 fm vh fun f fm' vh' => f = .next ∧ ∃ a, I a ∧ FmLe (st a) fm' ∧ hp a = vh') (g : ∀ a, I a → WB prog w K b c rest (st a) (hp a) Ξ) : WB prog w K b c (s0 :: rest) fm vh Ξ := by
  refine wb_cons ?_
  obtain ⟨f, fm', vh', h1, rfl, a, h2, h3, rfl⟩ := h
  exact ⟨_, _, _, h1, th_next (WB.weak h3 (g a h2))⟩

theorem we_ifv {t body orelse : Expr} {Φ : AV → VH → Prop} (x : AV) (h : WT prog w K b c t fm vh fun v vh1 => Br v (WE prog w K b c body fm vh1 fun y vh2 => y = x ∧ vh2 = vh1) (WE prog w K b c orelse fm vh1 fun y vh2 => y = x ∧ vh2 = vh1) ∧ Φ x vh1) : WE prog w K b c (.IfExp t body orelse pos) fm vh Φ := by
  obtain ⟨v, v1, h1, h2, h3⟩ := h
  refine we_if ⟨v, v1, h1, fun e => ?_, fun e => ?_⟩
  · obtain ⟨y, v2, h4, rfl, rfl⟩ := h2.yes e; exact ⟨_, _, h4, h3⟩
  · obtain ⟨y, v2, h4, rfl, rfl⟩ := h2.no e; exact ⟨_, _, h4, h3⟩

/-! a for over a list that is known -/
theorem wf_nil {target : Expr} {body : List Stmt} {P : AS → Prop} (hP : P ⟨fm, vh⟩) (h : Ξ .next fm vh) : WF prog w K b c target body P [] fm vh Ξ := ⟨_, _, _, .done hP, h⟩
theorem wf_cons {target : Expr} {body : List Stmt} {P : AS → Prop} {xs : List AV} (hP : P ⟨fm, vh⟩) (h : WA prog w K b c target x fm vh fun fm1 vh1 => WB prog w K b c body fm1 vh1 (FThen prog w K b c target body P xs Ξ)) : WF prog w K b c target body P (x :: xs) fm vh Ξ := by
  obtain ⟨fm1, v1, h1, f, fm2, v2, h2, h3⟩ := h
  rcases h3 with ⟨rfl, f', fm3, v3, h4, h5⟩ | ⟨⟨x, rfl⟩, h3⟩
  · exact ⟨_, _, _, .step hP h1 h2 h4, h5⟩
  · exact ⟨_, _, _, .ret hP h1 h2, h3⟩
theorem ft_next {target : Expr} {body : List Stmt} {P : AS → Prop} {xs : List AV} (h : WF prog w K b c target body P xs fm vh Ξ) : FThen prog w K b c target body P xs Ξ .next fm vh := ⟨.inl ⟨rfl, h⟩⟩
theorem ft_ret {target : Expr} {body : List Stmt} {P : AS → Prop} {xs : List AV} (h : Ξ (.ret x) fm vh) : FThen prog w K b c target body P xs Ξ (.ret x) fm vh := ⟨.inr ⟨⟨x, rfl⟩, h⟩⟩
theorem ws_forU {target iter : Expr} {body : List Stmt} (hs : ∀ env x, foldedSetIterable iter env x = pure x)
    (h : WE prog w K b c iter fm vh fun x vh1 => ∃ P xs, IterOk prog w x P xs ∧ WF prog w K b c target body P xs fm vh1 Ξ) : WS prog w K b c (.For target iter body [] pos) fm vh Ξ := by
  obtain ⟨x, v1, h1, P, xs, hi, f, fm', vh', h2, h3⟩ := h
  exact ⟨f, fm', vh', S_For h1 hi h2 hs, h3⟩
end

theorem tS {x y : Int} (h : 0 ≤ x) (e : y = x + 1) : y.toNat = x.toNat + 1 := by rw [e, Int.toNat_add h (by decide)]; rfl
theorem tUp {a l : Int} (h : a < l) : (l - a).toNat = (l - (a + 1)).toNat + 1 := tS (by omega) (by omega)
theorem tDn {a l : Int} (h : l < a) : (a - l).toNat = (a - 1 - l).toNat + 1 := tS (by omega) (by omega)
theorem tUp_lt {a l : Int} (h : a < l) : (l - (a + 1)).toNat < (l - a).toNat := by rw [tUp h]; exact Nat.lt_succ_self _
theorem tDn_lt {a l : Int} (h : l < a) : (a - 1 - l).toNat < (a - l).toNat := by rw [tDn h]; exact Nat.lt_succ_self _
theorem tZ {a l : Int} (h : ¬ a < l) : (l - a).toNat = 0 := Int.toNat_eq_zero.mpr (by omega)
theorem pickA_arr {α : Type} (is : List Nat) (xs : List α) : pickA is xs = is.filterMap (xs.toArray[·]?) := by
  unfold pickA
  congr 1
  funext i
  rw [List.getElem?_toArray]
theorem pick_take {α : Type} (k : Int) (h : 0 ≤ k) (xs : List α) : pickA (sliceIs none (some k) none xs.length) xs = xs.take k.toNat := by
  have e : sliceBounds none (some k) none xs.length = (((0 : Nat) : Int), ((min k.toNat xs.length : Nat) : Int), 1) := by
    simp only [sliceBounds, Option.getD_none, show (1 : Int) > 0 by decide, if_true, if_neg (show ¬ (k < 0) by omega)]
    congr 1
    congr 1
    by_cases q : k ≤ xs.length
    · rw [Int.min_eq_left q, Int.max_eq_right h, Nat.min_eq_left (Int.toNat_le.mpr q), Int.toNat_of_nonneg h]
    · have q := Int.le_of_lt (Int.not_le.mp q)
      rw [Int.min_eq_right q, Int.max_eq_right (Int.natCast_nonneg _), Nat.min_eq_right ((Int.le_toNat h).mpr q)]
  unfold sliceIs
  rw [e, pickA_arr]
  dsimp only
  rw [sliceRange_one, pick_run]
  show (List.drop 0 xs).take _ = _
  rw [List.drop_zero, Nat.sub_zero, kmk_take_min]
theorem pick_rev {α : Type} (xs : List α) : pickA (sliceIs none none (some (-1)) xs.length) xs = xs.reverse := by
  unfold sliceIs
  rw [krv_bounds, pickA_arr]
  dsimp only
  rw [krv_sliceRange, krv_range, List.filterMap_reverse]
  congr 1
  exact krv_all xs.toArray
section
variable {vh : VH} {i j : Nat}
theorem cmpEq_same {x y : AV} {d : PyData} (h1 : toPy vh 4 x = some d) (h2 : toPy vh 4 y = some d) (hs : SeqAt.shaped d = true) : cmpEq vh x y = some true := by
  unfold cmpEq
  rw [h1, h2, Option.bind_some, Option.bind_some, hs, Bool.and_self, if_pos rfl, SeqAt.eqv_refl d (SeqAt.canLay_of_shaped hs)]
theorem toPys_ints (n : Nat) (xs : List Int) : toPys vh n (xs.map .int) = some (xs.map .int) := by
  induction xs with
  | nil => rfl
  | cons x xs ih => exact toPys_cons (toPy_int vh n x) ih
theorem toPy_ints {n : Nat} {xs : List Int} (h : vh[i]? = some (.list (xs.map .int))) : toPy vh (n + 1) (.ref i) = some (.list (xs.map .int)) := by
  rw [toPy_ref n h, toPys_ints]; rfl
theorem canLay_ints (xs : List Int) : PyData.canLayAll0 (xs.map .int) = true := by
  induction xs with
  | nil => rfl
  | cons x xs ih => rw [List.map_cons, PyData.canLayAll0, ih]; rfl
theorem depth_ints (xs : List Int) : PyData.depthAll (xs.map .int) = 0 := by
  induction xs with
  | nil => rfl
  | cons x xs ih => rw [List.map_cons, PyData.depthAll, ih]; rfl
theorem shaped_ints (xs : List Int) : SeqAt.shaped (.list (xs.map .int)) = true := by
  unfold SeqAt.shaped
  rw [PyData.canLay0, canLay_ints, PyData.depth, depth_ints]; rfl
theorem eqv_ints : ∀ (xs ys : List Int), PyData.eqvAll (xs.map .int) (ys.map .int) = decide (xs = ys)
  | [], [] => rfl
  | [], _ :: _ => rfl
  | _ :: _, [] => rfl
  | x :: xs, y :: ys => by
    rw [List.map_cons, List.map_cons, PyData.eqvAll, eqv_ints xs ys, PyData.eqv, Bool.eq_iff_iff]
    simp
theorem cmp_ints {xs ys : List Int} (h1 : vh[i]? = some (.list (xs.map .int))) (h2 : vh[j]? = some (.list (ys.map .int))) : cmpEq vh (.ref i) (.ref j) = some (decide (xs = ys)) := by
  unfold cmpEq
  rw [toPy_ints h1, toPy_ints h2, Option.bind_some, Option.bind_some, shaped_ints, shaped_ints, Bool.and_self, if_pos rfl, PyData.eqv, eqv_ints]
end

/-! the list that the law is given -/
section
variable {prog : Program} {w : World} {K : Frag} {b : Nat} {c : Cx} {σ σ1 σ2 σ3 σ4 : AS} {x y z : AV} {pos apos : Pos} {vh : VH} {fm : Fm} {Φ : AV → VH → Prop}
theorem VRs.ofInts {W : Wd} : ∀ {vs : List Value} {ns : List Int}, IntsAre vs ns → VRs W vs (ns.map AV.int)
  | _, _, .nil => .nil
  | _, _, .cons _ _ r => .cons (.int _ _) (VRs.ofInts r)
theorem E_SliceBase {value : Expr} {upper : Option Expr} {p : Pos} {ns : List Int} {k : Int} (h1 : TrE prog w K b c value σ (.blist ns) σ1)
    (hup : TrP prog w K b c upper σ1 (.int k) σ2) (h0 : 0 ≤ k) (hsz : ns.length ≤ 1000000) : TrE prog w K b c (.Subscript value (.Slice none upper none p) pos) σ (.ref σ2.vh.length) ⟨σ2.fm, σ2.vh ++ [.list ((ns.take k.toNat).map .int)]⟩ := by
  intro ac env W s Q E O ER Lv hq
  refine PyProof.Rows.Subscript_ (h1 ac env W s _ E O ER Lv fun v1 W1 h1' tk1 le1 Lv1 r1 => ?_)
  refine wpAny_Slice ?_
  refine P_none ac env W1 _ _ E O (ER.mono le1) Lv1 fun vl W2 h2' tk2 le2 Lv2 r2 => ?_
  refine hup ac env W2 _ _ E O (ER.mono (le1.trans le2)) Lv2 fun vu W4 h4' tk4 le4 Lv4 r4 => ?_
  refine P_none ac env W4 _ _ E O (ER.mono ((le1.trans le2).trans le4)) Lv4 fun vst W5 h5' tk5 le5 Lv5 r5 => ?_
  have le := ((le1.trans le2).trans le4).trans le5
  obtain ⟨a, ob, vs, q, m1, m2, ⟨e, m3⟩, m4⟩ := r1.inv
  · rw [q]
    have hb : ac.h₀.get? a = some ob := by
      obtain ⟨m, reals, y⟩ := Lv1
      exact y.bs _ m1
    have hg : h5'.get? a = some ob := Lv5.keep _ _ hb
    have hil : Heap.IsList (h5'.push { cls := .type "slice", data := .fields #[vl, vu, vst] }) a vs.toArray := ⟨_, Heap.get?_push_of_some _ hg, m2, e, m3⟩
    have L5 := Lv5.push { cls := .type "slice", data := .fields #[vl, vu, vst] }
    have hlen : vs.length = ns.length := m4.length
    refine sub_slice hil.typeIs slot_list_getitem.lookup (wpAny_getItem_list_slice (lo := none) (hi := some k) (st := none) hil (Heap.IsSliceOf.new _ _ _ _) (part_ok r2 rfl) (part_ok r4 rfl) (part_ok r5 rfl) (by decide) ?_ (by rw [List.size_toArray, hlen, sizeLine_eq]; omega))
    have hms := kmk_upto (y := k) m4 h0
    have hlow : 1 < (h5'.push { cls := .type "slice", data := .fields #[vl, vu, vst] }).objs.size := L5.size_low O
    refine hq _ (W5.add _) _ tk5 (le.trans (W5.le_add _)) (L5.add (fun _ _ e => Heap.get?_push_of_some _ e) (get_size_none _) (Heap.get?_push_size _ rfl) ⟨_, 0, ?_, VRs.ofInts hms⟩ hlow) (.ref ?_)
    · rw [Array.toArray_toList]
    · rw [← Lv5.len]; exact W5.add_get _
theorem we_sliceB {value : Expr} {upper : Option Expr} {p : Pos} (h : WE prog w K b c value fm vh fun x vh1 => WP prog w K b c upper fm vh1 fun xu vh2 =>
    ∃ ns k, x = .blist ns ∧ xu = .int k ∧ 0 ≤ k ∧ ns.length ≤ 1000000 ∧ Φ (.ref vh2.length) (vh2 ++ [.list ((ns.take k.toNat).map .int)])) :
    WE prog w K b c (.Subscript value (.Slice none upper none p) pos) fm vh Φ := by
  obtain ⟨x, v1, h1, xu, v2, h2, ns, k, rfl, rfl, h0, hz, h5⟩ := h
  exact ⟨_, _, E_SliceBase h1 h2 h0 hz, h5⟩
end

/-! a table of codes -/
theorem TabR.triples {W : Wd} {ps : List Value} {ks : List (Nat × Nat × Option Nat)} (h : TabR W ps ks) : TriplesOk ps := by
  induction h with
  | nil => trivial
  | cons _ _ ih => exact ih
noncomputable def tabFind (ks : List (Nat × Nat × Option Nat)) (l c : Nat) : Option (Option Nat) := (ks.find? fun e => e.1 == l && e.2.1 == c).map (·.2.2)
theorem TabR.look {W : Wd} {ps : List Value} {ks : List (Nat × Nat × Option Nat)} (h : TabR W ps ks) (pos : Pos) :
    match tabFind ks pos.line pos.col with
    | none => codeAmong pos ps = none
    | some o => ∃ v, codeAmong pos ps = some v ∧ ∀ k, o = some k → ∃ a, v = .ref a ∧ W.adr[k]? = some a := by
  induction h with
  | nil => rfl
  | @cons l c v r o ks h1 _ ih =>
    unfold tabFind at ih ⊢
    rw [List.find?_cons]
    dsimp only [rawInt, codeAmong]
    have e1 : ((l : Int) == (pos.line : Int)) = (l == pos.line) := by
      rw [Bool.eq_iff_iff, beq_iff_eq, beq_iff_eq]; omega
    have e2 : ((c : Int) == (pos.col : Int)) = (c == pos.col) := by
      rw [Bool.eq_iff_iff, beq_iff_eq, beq_iff_eq]; omega
    rw [e1, e2]
    cases q : (l == pos.line && c == pos.col) with
    | true =>
      rw [if_pos rfl]
      exact ⟨v, rfl, h1⟩
    | false =>
      rw [if_neg (by simp)]
      exact ih
theorem TabR.snoc {W : Wd} {ps : List Value} {ks : List (Nat × Nat × Option Nat)} (h : TabR W ps ks) {l c : Nat} {v : Value} {o : Option Nat} (hv : ∀ k, o = some k → ∃ a, v = .ref a ∧ W.adr[k]? = some a) : TabR W (ps ++ [rawInt l, rawInt c, v]) (ks ++ [(l, c, o)]) := by
  induction h with
  | nil => exact .cons hv .nil
  | cons h1 _ ih => exact .cons h1 ih

section
variable {prog : Program} {w : World} {K : Frag} {ac : Act} {W : Wd} {σ : AS} {h : Heap}
/-- a real object that stands already joins the virtual heap -/
theorem Lives.join (x : Lives prog w ac W σ h) {a : Addr} {ob : Obj} {o : AO} (h1 : a ∉ W.adr) (h2 : ∀ p ∈ W.tups, p.1 ≠ a) (h3 : a ≠ ac.L) (h4 : ac.h₀.get? a = none) (hob : h.get? a = some ob) (hr : RO prog w (W.add a) ob o) (hlow : 1 < a) (ht : ∀ P ps, o = .tab P ps → a = P := by nofun) :
    Lives prog w ac (W.add a) ⟨σ.fm, σ.vh ++ [o]⟩ h := by
  obtain ⟨m, reals, y⟩ := x
  refine ⟨m, reals ++ [ob], y.F, fun p hp => ?_, fun p hp => ?_, ?_, fun b hb => ?_, ?_, ?_, y.fm.mono (W.le_add a), fun j q o2 e1 e2 => ?_, fun j P ps e => ?_, y.bs⟩
  · rcases List.mem_append.mp hp with hp | hp
    · exact y.N p (List.mem_append_left _ hp)
    · obtain ⟨j, e1, e2⟩ := zip_mem hp
      change (W.adr ++ [a])[j]? = _ at e1
      rw [List.getElem?_append] at e1 e2
      by_cases hj : j < reals.length
      · rw [if_pos hj] at e2
        rw [if_pos (y.la ▸ hj)] at e1
        exact y.N p (List.mem_append_right _ (zip_get e1 e2))
      · rw [if_neg hj] at e2
        rw [if_neg (y.la ▸ hj)] at e1
        have hj0 : j - reals.length = 0 := by
          have := (List.getElem?_eq_some_iff.mp e2).1
          simp at this; omega
        rw [y.la] at e1
        rw [hj0] at e1 e2
        simp at e1 e2
        rw [← e1, ← e2]
        exact ⟨hob, h3, h4⟩
  · intro z
    rcases List.mem_append.mp z with z | z
    · exact y.T p hp z
    · simp at z
      exact h2 p hp z
  · show (W.adr ++ [a]).Nodup
    rw [List.nodup_append]
    refine ⟨y.nd, by simp, fun b hb c hc => ?_⟩
    simp at hc
    subst hc
    rintro rfl
    exact h1 hb
  · rcases List.mem_append.mp hb with hb | hb
    · exact y.low b hb
    · simp at hb; rw [hb]; exact hlow
  · show (W.adr ++ [a]).length = _
    rw [List.length_append, List.length_append, y.la]; rfl
  · show _ = (σ.vh ++ [o]).length
    rw [List.length_append, List.length_append, y.lv]; rfl
  · change (σ.vh ++ [o])[j]? = _ at e2
    rw [List.getElem?_append] at e1 e2
    by_cases hj : j < reals.length
    · rw [if_pos hj] at e1
      rw [if_pos (y.lv ▸ hj)] at e2
      exact (y.ob j _ _ e1 e2).mono (W.le_add a)
    · rw [if_neg hj] at e1
      rw [if_neg (y.lv ▸ hj)] at e2
      have hj0 : j - reals.length = 0 := by
        have := (List.getElem?_eq_some_iff.mp e1).1
        simp at this; omega
      rw [← y.lv, hj0] at e2
      rw [hj0] at e1
      simp at e1 e2
      subst e1; subst e2
      exact hr
  · change (σ.vh ++ [o])[j]? = _ at e
    show (W.adr ++ [a])[j]? = some P
    rw [List.getElem?_append] at e ⊢
    by_cases hj : j < σ.vh.length
    · rw [if_pos hj] at e
      rw [if_pos (by rw [y.la, y.lv]; exact hj)]
      exact y.tb j P ps e
    · rw [if_neg hj] at e
      rw [if_neg (by rw [y.la, y.lv]; exact hj)]
      have hj0 : j - σ.vh.length = 0 := by
        have := (List.getElem?_eq_some_iff.mp e).1
        simp at this; omega
      rw [hj0] at e
      rw [y.la, y.lv, hj0]
      simp at e
      simp [ht P ps e]
theorem Lives.lt (x : Lives prog w ac W σ h) : (∀ a ∈ W.adr, a < h.objs.size) ∧ (∀ p ∈ W.tups, p.1 < h.objs.size) ∧ ac.L < h.objs.size ∧ ∀ a, ac.L ≤ a → ac.h₀.get? a = none := by
  refine ⟨fun a ha => ?_, fun p hp => Heap.lt_size (x.tup (ob := p.2) hp), ?_, fun a ha => ?_⟩
  · obtain ⟨ob, e⟩ := x.idx ha
    exact Heap.lt_size e
  · obtain ⟨m, reals, y⟩ := x
    exact y.F.ns.lt
  · obtain ⟨m, reals, y⟩ := x
    exact Heap.get?_none_of_le (Nat.le_trans y.F.above ha)
end

section
variable {prog : Program} {w : World} {K : Frag} {b : Nat} {c : Cx} {σ σ1 σ2 σ3 : AS} {x y z : AV} {pos apos : Pos} {vh : VH} {fm : Fm} {Φ : AV → VH → Prop}
theorem E_Lambda {params : Arguments} {body : Expr} {sc : Scope} {t : Nat} {P cA : Addr} {ks : List (Nat × Nat × Option Nat)} {cl : List (Str × Nat)} (hcode : c.code = .ref cA) (hhd : ∀ h, K.In h → CodeHd h cA P) (hdef : ∀ env, defaultsOf params env = ([], [])) (hcl : closA c sc.names [] = some cl)
    (ht : σ.vh[t]? = some (.tab P ks)) (hf : tabFind ks pos.line pos.col = none) :
    TrE prog w K b c (.Lambda params body sc pos) σ (.lam params body sc cl (c.qual ++ "<lambda>") σ.vh.length) ⟨σ.fm, σ.vh.set t (.tab P (ks ++ [(pos.line, pos.col, some σ.vh.length)])) ++ [.code (c.qual ++ "<lambda>")]⟩ := by
  intro ac env W s Q E O ER Lv hq
  obtain ⟨cl', e1, e2⟩ := closureFor_ok ER hcl
  obtain ⟨p, loose, mean, mg, mb, T⟩ := O.top
  obtain ⟨m, F, FR⟩ := Lv.frame
  refine kla_eval (hdef env) ?_
  rw [ER.qual]
  have hP : W.adr[t]? = some P := by
    obtain ⟨m, reals, y⟩ := Lv
    exact y.tb t P ks ht
  obtain ⟨ob, e3, ⟨ps, rfl, tr⟩, hPL, hP0⟩ := Lv.atR ht hP
  have hlook := tr.look pos
  rw [hf] at hlook
  have hgs := T.g.keeps F.keep
  obtain ⟨bm, ob, b1, b2, b3, b4, b5, b6⟩ := T.bmain
  have hgP : mainGlobals ≠ P := fun q => by
    obtain ⟨o, es, ep, e, hd, _⟩ := hgs
    rw [q, e3] at e; cases e; cases hd
  have hbP : bm ≠ P := fun q => by
    have e := F.keep _ _ b3
    rw [q, e3] at e; cases e; cases b4
  have hbG : bm ≠ mainGlobals := fun q => by
    obtain ⟨o, es, ep, e, hd, _⟩ := T.g
    rw [q, e] at b3; cases b3; rw [hd] at b6; cases b6
  refine kla_makeFunction (mg := mg) e1 ER.globals hgs (ER.code.trans hcode) (hhd _ (Lv.kin O)) e3 (by exact tr.triples) (by exact hlook) hgP ⟨bm, ob, b1, b2, hbG, hbP, F.keep _ _ b3, b4, b5, b6⟩ fun c' ctv h' tk hx hge hlt hrec htb => ?_
  obtain ⟨c₂, oc, vs, tq, e4, hoc, hd, hv⟩ := hrec
  cases e4
  obtain ⟨l1, l2, l3, l4⟩ := Lv.lt
  have hlow : 1 < c' := Nat.lt_of_lt_of_le (Lv.size_low O) hge
  have htb' : h'.get? P = some (tabObj (ps ++ [rawInt pos.line, rawInt pos.col, .ref c']).toArray) := by rw [htb]; simp
  have L1 : Lives prog w ac W ⟨σ.fm, σ.vh.set t (.tab P (ks ++ [(pos.line, pos.col, none)]))⟩ h' :=
    Lv.upd ht hP (fun b ob hb e => hx b ob hb e) htb' ⟨_, rfl, tr.snoc (by nofun)⟩ (fun P' ps' e => by cases e; rfl)
  have L2 : Lives prog w ac (W.add c') ⟨σ.fm, σ.vh.set t (.tab P (ks ++ [(pos.line, pos.col, none)])) ++ [.code (c.qual ++ "<lambda>")]⟩ h' :=
    L1.join (o := .code (c.qual ++ "<lambda>")) (fun z => Nat.lt_irrefl _ (Nat.lt_of_lt_of_le (l1 _ z) hge)) (fun p hp => Nat.ne_of_lt (Nat.lt_of_lt_of_le (l2 p hp) hge)) (Nat.ne_of_gt (Nat.lt_of_lt_of_le l3 hge)) (l4 _ (Nat.le_of_lt (Nat.lt_of_lt_of_le l3 hge))) hoc ⟨vs, tq, hd, hv⟩ hlow
  have htl : t < σ.vh.length := (List.getElem?_eq_some_iff.mp ht).1
  have hk : (W.add c').adr[σ.vh.length]? = some c' := by rw [← Lv.len]; exact W.add_get c'
  have L3 : Lives prog w ac (W.add c') ⟨σ.fm, σ.vh.set t (.tab P (ks ++ [(pos.line, pos.col, some σ.vh.length)])) ++ [.code (c.qual ++ "<lambda>")]⟩ h' := by
    have := L2.upd (i := t) (a := P) (h' := h') (o := .tab P (ks ++ [(pos.line, pos.col, none)])) (o' := .tab P (ks ++ [(pos.line, pos.col, some σ.vh.length)])) (ob' := tabObj (ps ++ [rawInt pos.line, rawInt pos.col, .ref c']).toArray)
      (by show (σ.vh.set t _ ++ _)[t]? = _; exact get_left (get_hit ht)) ((W.le_add c').1 _ _ hP) (fun _ _ _ e => e) htb' ⟨_, rfl, (tr.mono' (W.le_add c').1).snoc (fun k e => by cases e; exact ⟨c', rfl, hk⟩)⟩ (fun P' ps' e => by cases e; rfl)
    rw [show (σ.vh.set t (AO.tab P (ks ++ [(pos.line, pos.col, none)])) ++ [AO.code (c.qual ++ "<lambda>")]).set t (.tab P (ks ++ [(pos.line, pos.col, some σ.vh.length)])) = σ.vh.set t (.tab P (ks ++ [(pos.line, pos.col, some σ.vh.length)])) ++ [AO.code (c.qual ++ "<lambda>")] by
      rw [List.set_append_left _ _ (by rw [List.length_set]; exact htl), List.set_set]] at this
    exact this
  refine hq _ ((W.add c').addT (h'.objs.size, kla_obj "<lambda>" (c.qual ++ "<lambda>") params body sc cl' ((mg "__name__").getD .none) c' ctv)) _ tk ((W.le_add c').trans (Wd.le_addT _ _)) (L3.addT (fun _ _ e => Heap.get?_push_of_some _ e) (get_size_none _) (Heap.get?_push_size _ rfl))
    (.lam (.head _) ⟨rfl, rfl, rfl, _, _, _, rfl⟩ ((e2.mono (W.le_add c')).mono (Wd.le_addT _ _)) hk)
theorem E_LambdaHit {params : Arguments} {body : Expr} {sc : Scope} {t k : Nat} {P cA : Addr} {ks : List (Nat × Nat × Option Nat)} {cl : List (Str × Nat)} (hcode : c.code = .ref cA) (hhd : ∀ h, K.In h → CodeHd h cA P) (hdef : ∀ env, defaultsOf params env = ([], [])) (hcl : closA c sc.names [] = some cl)
    (ht : σ.vh[t]? = some (.tab P ks)) (hf : tabFind ks pos.line pos.col = some (some k)) :
    TrE prog w K b c (.Lambda params body sc pos) σ (.lam params body sc cl (c.qual ++ "<lambda>") k) σ := by
  intro ac env W s Q E O ER Lv hq
  obtain ⟨cl', e1, e2⟩ := closureFor_ok ER hcl
  obtain ⟨p, loose, mean, mg, mb, T⟩ := O.top
  obtain ⟨m, F, FR⟩ := Lv.frame
  refine kla_eval (hdef env) ?_
  rw [ER.qual]
  have hP : W.adr[t]? = some P := by
    obtain ⟨m, reals, y⟩ := Lv
    exact y.tb t P ks ht
  obtain ⟨ob, e3, ⟨ps, rfl, tr⟩, hPL, hP0⟩ := Lv.atR ht hP
  have hlook := tr.look pos
  rw [hf] at hlook
  obtain ⟨v, hlook, hv⟩ := hlook
  obtain ⟨c', rfl, hk⟩ := hv k rfl
  have hgs := T.g.keeps F.keep
  obtain ⟨bm, ob, b1, b2, b3, b4, b5, b6⟩ := T.bmain
  have hbP : bm ≠ P := fun q => by
    have e := F.keep _ _ b3
    rw [q, e3] at e; cases e; cases b4
  have hbG : bm ≠ mainGlobals := fun q => by
    obtain ⟨o, es, ep, e, hd, _⟩ := T.g
    rw [q, e] at b3; cases b3; rw [hd] at b6; cases b6
  refine kla_makeFunctionHit (mg := mg) e1 ER.globals hgs (ER.code.trans hcode) (hhd _ (Lv.kin O)) e3 (by exact tr.triples) (by exact hlook) ⟨bm, ob, b1, b2, hbG, hbP, F.keep _ _ b3, b4, b5, b6⟩ fun ctv h' tk hkp hsz => ?_
  have L1 : Lives prog w ac W σ h' := Lv.grow hkp
  exact hq _ (W.addT (h'.objs.size, kla_obj "<lambda>" (c.qual ++ "<lambda>") params body sc cl' ((mg "__name__").getD .none) c' ctv)) _ tk (Wd.le_addT _ _) (L1.addT (fun _ _ e => Heap.get?_push_of_some _ e) (get_size_none _) (Heap.get?_push_size _ rfl))
    (.lam (.head _) ⟨rfl, rfl, rfl, _, _, _, rfl⟩ (e2.mono (Wd.le_addT _ _)) hk)
end

section
variable {prog : Program} {w : World} {K : Frag} {b : Nat} {c : Cx} {σ σ1 σ2 σ3 : AS} {x y z : AV} {pos apos : Pos} {vh : VH} {fm : Fm} {Φ : AV → VH → Prop}
theorem callWith_okF {a : Addr} {first : List Value} {es : List Expr} {xs : List AV} (hes : es.all notStarred = true) (ha : TrL prog w K b c pos es σ xs σ1)
    {ac : Act} {env : Env} {W : Wd} {s : Shared} {Q : Value → Shared → Prop} {E : Value → Shared → Prop} (O : Ok K b ac) (ER : EnvR W c ac env) (Lv : Lives prog w ac W σ s.heap)
    (hfn : ∀ W' h', W.le W' → Lives prog w ac W' σ1 h' → FnAt a h')
    (hc : ∀ vs W' h' tk', W.le W' → Lives prog w ac W' σ1 h' → VRs W' vs xs → wpAny (model prog w) ac.A (call (.ref a) (first ++ vs)) Q E { s with heap := h', toks := tk' }) :
    wpAny (model prog w) ac.A (callWith pos (.ref a) first (backTo pos (starEach es env)) (backToKw pos (keywordEach [] env))) Q E s := by
  refine callWith_of (P := FnAt a) ?_ (fun h X => keeps_F h X) ?_
  · rw [starEach_plain hes]; rfl
  · cases es with
    | nil =>
      have h := ha ac env W s (fun vs s' => FnAt a s'.heap ∧ wpAny (model prog w) ac.A (call (.ref a) (first ++ vs)) Q E s') E O ER Lv fun vs W' h' tk' le L r => ⟨hfn W' h' le L, hc vs W' h' tk' le L r⟩
      show wpAny _ _ (evalArgs (.ref a) true [] []) _ _ _
      unfold evalArgs
      show wpAny _ _ (spliced [] >>= _) _ _ s
      refine wpAny_bind (wpAny_mono h (fun vs s' h' => ?_) fun _ _ x => x)
      refine wpAny_holding ?_
      exact wpAny_bind (wpAny_pure (wpAny_bind (wpAny_pure (wpAny_pure h'))))
    | cons e r =>
      rw [List.all_cons, Bool.and_eq_true] at hes
      have e1 := starEach_cons (r := r) (env := env) hes.1
      have h := ha ac env W s (fun vs s' => FnAt a s'.heap ∧ wpAny (model prog w) ac.A (call (.ref a) (first ++ vs)) Q E s') E O ER Lv fun vs W' h' tk' le L r => ⟨hfn W' h' le L, hc vs W' h' tk' le L r⟩
      have h2 : wpAny (model prog w) ac.A (spliced (backTo pos (starEach (e :: r) env))) (fun vs s' => FnAt a s'.heap ∧ wpAny (model prog w) ac.A (call (.ref a) (first ++ vs)) Q E s') E s := h
      rw [e1] at h2 ⊢
      exact evalArgs_plain h2

/-- a lambda is called -/
theorem E_CallLam {func : Expr} {es : List Expr} {xs : List AV} {vh' : List AO} {params : Arguments} {body : Expr} {sc : Scope} {cl : List (Str × Nat)} {ql : Str} {k : Nat} {ps : List Str} {fm1 : Fm}
    (h1 : TrE prog w K (b + 1) c func σ (.lam params body sc cl ql k) σ1) (hes : es.all notStarred = true) (ha : TrL prog w K (b + 1) c pos es σ1 xs σ2) (hf : notAttr func = true) (hk : σ2.vh[k]? = some (.code ql))
    (hbind : ∀ (nm : Str) (cl' : List (Str × Addr)) (pm : Value) (c' : Addr) (ctv : Value) (vs : List Value), vs.length = xs.length → bindArgs (kla_fn nm ql params body sc cl' pm (.ref c') ctv) ⟨vs, []⟩ = pure (ps.zip vs))
    (hnd : ps.Nodup) (hlen : ps.length = xs.length) (hloc : ps.all (fun n => decide (sc.names.lookup n = some .local)) = true) (hcell : (sc.names.all fun x => x.2 != .cell) = true) (hco : sc.isCoroutine = false) (hgen : sc.isGenerator = false) (hkd : sc.kind = .function)
    (hbody : ∀ cd, TrE prog w K b ⟨sc, cl, none, ql ++ ".<locals>.", cd⟩ body ⟨ps.zip (xs.map some), σ2.vh⟩ y ⟨fm1, vh'⟩) : TrE prog w K (b + 1) c (.Call func es [] pos) σ y ⟨σ2.fm, vh'⟩ := by
  intro ac env W s Q E O ER Lv hq
  show wpAny _ _ (eval (.Call func es [] pos) env) Q E s
  rw [call_eq hf]
  refine wpAny_bind (h1 ac env W s _ E O ER Lv fun v1 W1 h1' tk1 le1 Lv1 r1 => ?_)
  obtain ⟨a, ob, cl', cA, q0, m1, m2, m3, m4⟩ := r1.inv
  · rw [q0]
    obtain ⟨q1, q2, q3, pm, ct, nm, q4⟩ := m2
    have hob : ob = kla_obj nm ql params body sc cl' pm cA ct := by
      obtain ⟨c9, d9, dt9, sl9⟩ := ob
      simp only at q1 q2 q3 q4
      subst q1; subst q2; subst q3; subst q4; rfl
    subst hob
    refine callWith_okF hes ha O (ER.mono le1) Lv1 (fun W' h' le L => ⟨_, _, _, _, L.tup (le.2.1 _ m1)⟩) fun vs W2 h2' tk2 le2 Lv2 r2 => ?_
    refine wpAny_call ?_
    obtain ⟨p, loose, mean, mg, mb, T⟩ := O.top
    have hroom : ac.A.depth < recursionLimit := by have := O.depth; omega
    obtain ⟨oc, g1, g2, g3, g4⟩ := Lv2.atR hk (le2.1 _ _ m4)
    obtain ⟨vs1, t1, g5, g6⟩ := g2
    obtain ⟨m, reals, y⟩ := Lv2
    refine kla_code (binds := ps.zip vs) O.below y.F O.kin y.N T O.frames O.fr O.kind (List.mem_append_left _ (le2.2.1 _ m1)) ⟨_, oc, vs1, t1, rfl, g1, g5, g6⟩ hroom (hbind nm cl' pm cA ct vs r2.length) ?_ ?_ hco hgen hkd ?_
    · intro q hq'
      have := (List.of_mem_zip hq').1
      exact of_decide_eq_true (List.all_eq_true.mp hloc _ this)
    · intro g L' h₁ FG F' N' B' K' T'
      have hfm : FrR W2 (fun y => (ps.zip vs).reverse.lookup y) (ps.zip (xs.map some)) := by
        have := FrR.init (W := W2) (ps := ps) (locs := []) r2 hlen hnd
        unfold initFm at this
        rw [List.map_nil, List.append_nil] at this
        exact this
      have Lv' : Lives prog w ⟨ac.A.deeper (envX ql sc L' a (.ref cA) cl'), envX ql sc L' a (.ref cA) cl', ac.fenv :: ac.outer, ac.A, ac.base, g, L'⟩ W2 ⟨ps.zip (xs.map some), σ2.vh⟩ h₁ :=
        ⟨_, reals, F', N', y.T, y.nd, y.low, y.la, y.lv, hfm, y.ob, y.tb, fun p hp => FG.keep _ _ (y.bs p hp)⟩
      have O' : Ok K b ⟨ac.A.deeper (envX ql sc L' a (.ref cA) cl'), envX ql sc L' a (.ref cA) cl', ac.fenv :: ac.outer, ac.A, ac.base, g, L'⟩ := by
        refine ⟨B', K', ⟨p, loose, mean, mg, mb, T'⟩, Around.frames_deeper O.frames, rfl, hkd, O.handled, ?_, ?_⟩
        · show ac.A.depth + 1 + b < recursionLimit
          have := O.depth; omega
        · show ac.A.units + 3 + 64 + 8 * b < cLine
          have := O.units; omega
      have ER' : EnvR W2 ⟨sc, cl, none, ql ++ ".<locals>.", .ref cA⟩ ⟨ac.A.deeper (envX ql sc L' a (.ref cA) cl'), envX ql sc L' a (.ref cA) cl', ac.fenv :: ac.outer, ac.A, ac.base, g, L'⟩ (envX ql sc L' a (.ref cA) cl') :=
        ⟨rfl, rfl, rfl, hkd, m3.mono le2, rfl, rfl, rfl, rfl⟩
      refine hbody _ _ _ W2 _ _ _ O' ER' Lv' fun v W' h' tk' le L r => ?_
      obtain ⟨m', reals', y'⟩ := L
      refine leaveK_ y'.F y'.N fun F2 N2 => ?_
      exact hq _ W' h' tk' ((le1.trans le2).trans le) ⟨m, reals', F2, N2, y'.T, y'.nd, y'.low, y'.la, y'.lv, y.fm.mono le, y'.ob, y'.tb, fun p hp => y.bs p (le.2.2 ▸ hp)⟩ r
    · intro x hx
      have := List.all_eq_true.mp hcell x hx
      simpa using this

/-! the same, ahead of a post -/
theorem we_lam {params : Arguments} {body : Expr} {sc : Scope} {t : Nat} {P cA : Addr} {ks : List (Nat × Nat × Option Nat)} {cl : List (Str × Nat)} (hcode : c.code = .ref cA) (hhd : ∀ h, K.In h → CodeHd h cA P) (hdef : ∀ env, defaultsOf params env = ([], [])) (hcl : closA c sc.names [] = some cl)
    (ht : vh[t]? = some (.tab P ks)) (hf : tabFind ks pos.line pos.col = none) (h : Φ (.lam params body sc cl (c.qual ++ "<lambda>") vh.length) (vh.set t (.tab P (ks ++ [(pos.line, pos.col, some vh.length)])) ++ [.code (c.qual ++ "<lambda>")])) : WE prog w K b c (.Lambda params body sc pos) fm vh Φ :=
  ⟨_, _, E_Lambda (σ := ⟨fm, vh⟩) hcode hhd hdef hcl ht hf, h⟩
theorem we_lamHit {params : Arguments} {body : Expr} {sc : Scope} {t k : Nat} {P cA : Addr} {ks : List (Nat × Nat × Option Nat)} {cl : List (Str × Nat)} (hcode : c.code = .ref cA) (hhd : ∀ h, K.In h → CodeHd h cA P) (hdef : ∀ env, defaultsOf params env = ([], [])) (hcl : closA c sc.names [] = some cl)
    (ht : vh[t]? = some (.tab P ks)) (hf : tabFind ks pos.line pos.col = some (some k)) (h : Φ (.lam params body sc cl (c.qual ++ "<lambda>") k) vh) : WE prog w K b c (.Lambda params body sc pos) fm vh Φ :=
  ⟨_, _, E_LambdaHit (σ := ⟨fm, vh⟩) hcode hhd hdef hcl ht hf, h⟩
/-- what a predicate answers: a lambda of one argument that changes nothing -/
structure PredIs (prog : Program) (w : World) (K : Frag) (b : Nat) (vh : VH) (x : AV) (f : AV → Option Bool) : Prop where
  out : ∃ params body sc cl ql k n, x = .lam params body sc cl ql k ∧ vh[k]? = some (.code ql) ∧
    (∀ (nm : Str) (cl' : List (Str × Addr)) (pm : Value) (c' : Addr) (ctv : Value) (v : Value), bindArgs (kla_fn nm ql params body sc cl' pm (.ref c') ctv) ⟨[v], []⟩ = pure [(n, v)]) ∧
    decide (sc.names.lookup n = some .local) = true ∧ (sc.names.all fun x => x.2 != .cell) = true ∧ sc.isCoroutine = false ∧ sc.isGenerator = false ∧ sc.kind = .function ∧
    ∀ cd a v, f a = some v → WE prog w K b ⟨sc, cl, none, ql ++ ".<locals>.", cd⟩ body [(n, some a)] vh fun y vh' => y = .bool v ∧ vh' = vh
theorem we_callPred {n : Str} {np : Pos} {e : Expr} {f : AV → Option Bool} {v : Bool} (hs : notStarred e = true)
    (h : WE prog w K (b + 1) c (.Name n np) fm vh fun x vh1 => WE prog w K (b + 1) c e fm vh1 fun a vh2 => PredIs prog w K b vh2 x f ∧ f a = some v ∧ Φ (.bool v) vh2) : WE prog w K (b + 1) c (.Call (.Name n np) [e] [] pos) fm vh Φ := by
  obtain ⟨x, v1, h1, a, v2, h2, ⟨params, body, sc, cl, ql, k, m, rfl, q1, q2, q3, q4, q5, q6, q7, q8⟩, h3, h4⟩ := h
  refine ⟨_, _, E_CallLam (ps := [m]) (σ2 := ⟨fm, v2⟩) (xs := [a]) (fm1 := [(m, some a)]) h1 (by rw [List.all_cons, hs]; rfl) (L_cons h2 L_nil hs) rfl q1 (fun nm cl' pm c' ctv vs hl => ?_) (by simp) rfl (by rw [List.all_cons, q3]; rfl) q4 q5 q6 q7 (fun cd => ?_), h4⟩
  · obtain ⟨u, rfl⟩ := lst1 hl
    exact q2 nm cl' pm c' ctv u
  · obtain ⟨y, v3, h5, rfl, rfl⟩ := q8 cd a v h3
    exact h5

/-- a table of texts, written down and asked at once -/
theorem E_DictSub {keys : List (Option Expr)} {values : List Expr} {kp : Pos} {idx : Expr} {D : List (PyData × PyData)} {q r : Str} (hD : litPairs keys values = some D) (hs : strKeyed D = true) (hn : (strKeysOf D).Nodup)
    (hall : keys.all (·.isSome) = true) (hl : keys.length = values.length) (h0 : keys ≠ []) (hlen : keys.length ≤ 15) (hi : TrE prog w K b c idx σ (.str q) σ1) (hv : PySem.Spec.lookup (PyData.str q) D = some (.str r)) (hns : notSlice idx = true) :
    TrE prog w K b c (.Subscript (.Dict keys values kp) idx pos) σ (.str r) σ1 := by
  intro ac env W s Q E O ER Lv hq
  refine PyProof.Rows.Subscript_ (Dict_lits_str hD hs hn hall hl h0 hlen fun a o h1 tk1 hge ho T hk => ?_)
  have hfree : s.heap.get? a = none := Heap.get?_none_of_le hge
  have L1 : Lives prog w ac (W.addT (a, o)) σ h1 := Lv.addT hk hfree ho
  refine hi ac env _ _ _ E O (ER.mono (W.le_addT _)) L1 fun v2 W2 h2' tk2 le2 Lv2 r2 => ?_
  obtain ⟨t, e2⟩ := r2.inv
  rw [e2]
  obtain ⟨kvs, hd, hf⟩ := T
  have hg : h2'.get? a = some o := Lv2.tup (le2.2.1 _ (.head _))
  have hm := (Heap.dictOf_iff.mpr ⟨o, hg, hd⟩).mapOf
  obtain ⟨v, hv1, hv2⟩ := hf.of_lookup (fun a b => by rfl) hv
  obtain ⟨t2, rfl⟩ := hv2.str_inv
  exact tail_any hm.typeIs slot_dict_getitem.lookup (wpAny_getItem_of (knd := PySem.strKind prog w) (k := q) (f := valueAt kvs) (by simp [PySem.strKind, Value.isStrOf]) hm hv1 (hq _ W2 h2' _ ((W.le_addT _).trans le2) Lv2 (.str _ _))) (subscripted_plain hns)
theorem we_dictSub {keys : List (Option Expr)} {values : List Expr} {kp : Pos} {idx : Expr} {D : List (PyData × PyData)} (hD : litPairs keys values = some D) (hs : strKeyed D = true) (hn : (strKeysOf D).Nodup)
    (hall : keys.all (·.isSome) = true) (hl : keys.length = values.length) (h0 : keys ≠ []) (hlen : keys.length ≤ 15) (hns : notSlice idx = true) (h : WE prog w K b c idx fm vh fun x vh1 => ∃ q r, x = .str q ∧ PySem.Spec.lookup (PyData.str q) D = some (.str r) ∧ Φ (.str r) vh1) :
    WE prog w K b c (.Subscript (.Dict keys values kp) idx pos) fm vh Φ := by
  obtain ⟨x, v1, h1, q, r, rfl, hv, h2⟩ := h
  exact ⟨_, _, E_DictSub hD hs hn hall hl h0 hlen h1 hv hns, h2⟩
end

abbrev PP := PySem.Challenge.rw_np0047_01.row.prog
section
variable (w : World)
theorem g_syntax_at : GlobIs (hd.heap_39 w.params) "syntax_at" (.con (.ref 28)) := .inl ⟨_, by k_is, fun W => .con _⟩
theorem k_syntax_at : KeepOk PP w (hd.heap_39 w.params) (.ref 28) := keep_own (by k_is)
theorem g_is_of : GlobIs (hd.heap_39 w.params) "is_of" (.con (.ref 36)) := .inl ⟨_, by k_is, fun W => .con _⟩
theorem k_is_of : KeepOk PP w (hd.heap_39 w.params) (.ref 36) := keep_own (by k_is)
theorem g_skip_forward : GlobIs (hd.heap_39 w.params) "skip_forward" (.con (.ref 44)) := .inl ⟨_, by k_is, fun W => .con _⟩
theorem k_skip_forward : KeepOk PP w (hd.heap_39 w.params) (.ref 44) := keep_own (by k_is)
theorem g_skip_backward : GlobIs (hd.heap_39 w.params) "skip_backward" (.con (.ref 52)) := .inl ⟨_, by k_is, fun W => .con _⟩
theorem k_skip_backward : KeepOk PP w (hd.heap_39 w.params) (.ref 52) := keep_own (by k_is)
theorem g_skip_syntax : GlobIs (hd.heap_39 w.params) "skip_syntax" (.con (.ref 60)) := .inl ⟨_, by k_is, fun W => .con _⟩
theorem k_skip_syntax : KeepOk PP w (hd.heap_39 w.params) (.ref 60) := keep_own (by k_is)
theorem g_is_among : GlobIs (hd.heap_39 w.params) "is_among" (.con (.ref 67)) := .inl ⟨_, by k_is, fun W => .con _⟩
theorem k_is_among : KeepOk PP w (hd.heap_39 w.params) (.ref 67) := keep_own (by k_is)
theorem g_skip_codes : GlobIs (hd.heap_39 w.params) "skip_codes" (.con (.ref 75)) := .inl ⟨_, by k_is, fun W => .con _⟩
theorem k_skip_codes : KeepOk PP w (hd.heap_39 w.params) (.ref 75) := keep_own (by k_is)
theorem g_codes_of_set : GlobIs (hd.heap_39 w.params) "codes_of_set" (.con (.ref 82)) := .inl ⟨_, by k_is, fun W => .con _⟩
theorem k_codes_of_set : KeepOk PP w (hd.heap_39 w.params) (.ref 82) := keep_own (by k_is)
theorem g_LispSignal : GlobIs (hd.heap_39 w.params) "LispSignal" (.con (.ref 99)) := .inl ⟨_, by k_is, fun W => .con _⟩
theorem k_LispSignal : KeepOk PP w (hd.heap_39 w.params) (.ref 99) := keep_own (by k_is)
theorem g_Syntax : GlobIs (hd.heap_39 w.params) "Syntax" (.con (.ref 147)) := .inl ⟨_, by k_is, fun W => .con _⟩
theorem k_Syntax : KeepOk PP w (hd.heap_39 w.params) (.ref 147) := keep_own (by k_is)
theorem g_sorted_flags : GlobIs (hd.heap_39 w.params) "sorted_flags" (.con (.ref 156)) := .inl ⟨_, by k_is, fun W => .con _⟩
theorem k_sorted_flags : KeepOk PP w (hd.heap_39 w.params) (.ref 156) := keep_own (by k_is)
theorem g_read_syntax : GlobIs (hd.heap_39 w.params) "read_syntax" (.con (.ref 161)) := .inl ⟨_, by k_is, fun W => .con _⟩
theorem k_read_syntax : KeepOk PP w (hd.heap_39 w.params) (.ref 161) := keep_own (by k_is)
theorem g_SyntaxTable : GlobIs (hd.heap_39 w.params) "SyntaxTable" (.con (.ref 228)) := .inl ⟨_, by k_is, fun W => .con _⟩
theorem k_SyntaxTable : KeepOk PP w (hd.heap_39 w.params) (.ref 228) := keep_own (by k_is)
theorem g_letters : GlobIs (hd.heap_39 w.params) "letters" (.con (.ref 239)) := .inl ⟨_, by k_is, fun W => .con _⟩
theorem k_letters : KeepOk PP w (hd.heap_39 w.params) (.ref 239) := keep_own (by k_is)
theorem g_standard_table : GlobIs (hd.heap_39 w.params) "standard_table" (.con (.ref 246)) := .inl ⟨_, by k_is, fun W => .con _⟩
theorem k_standard_table : KeepOk PP w (hd.heap_39 w.params) (.ref 246) := keep_own (by k_is)
theorem g_forward_by : GlobIs (hd.heap_39 w.params) "forward_by" (.con (.ref 253)) := .inl ⟨_, by k_is, fun W => .con _⟩
theorem k_forward_by : KeepOk PP w (hd.heap_39 w.params) (.ref 253) := keep_own (by k_is)
theorem g_forward_word : GlobIs (hd.heap_39 w.params) "forward_word" (.con (.ref 260)) := .inl ⟨_, by k_is, fun W => .con _⟩
theorem k_forward_word : KeepOk PP w (hd.heap_39 w.params) (.ref 260) := keep_own (by k_is)
theorem g_forward_symbol : GlobIs (hd.heap_39 w.params) "forward_symbol" (.con (.ref 267)) := .inl ⟨_, by k_is, fun W => .con _⟩
theorem k_forward_symbol : KeepOk PP w (hd.heap_39 w.params) (.ref 267) := keep_own (by k_is)
theorem g_bounds_by : GlobIs (hd.heap_39 w.params) "bounds_by" (.con (.ref 274)) := .inl ⟨_, by k_is, fun W => .con _⟩
theorem k_bounds_by : KeepOk PP w (hd.heap_39 w.params) (.ref 274) := keep_own (by k_is)
theorem g_word_bounds : GlobIs (hd.heap_39 w.params) "word_bounds" (.con (.ref 281)) := .inl ⟨_, by k_is, fun W => .con _⟩
theorem k_word_bounds : KeepOk PP w (hd.heap_39 w.params) (.ref 281) := keep_own (by k_is)
theorem g_symbol_bounds : GlobIs (hd.heap_39 w.params) "symbol_bounds" (.con (.ref 288)) := .inl ⟨_, by k_is, fun W => .con _⟩
theorem k_symbol_bounds : KeepOk PP w (hd.heap_39 w.params) (.ref 288) := keep_own (by k_is)
theorem g_all_words : GlobIs (hd.heap_39 w.params) "all_words" (.con (.ref 295)) := .inl ⟨_, by k_is, fun W => .con _⟩
theorem k_all_words : KeepOk PP w (hd.heap_39 w.params) (.ref 295) := keep_own (by k_is)
theorem g_TextRow : GlobIs (hd.heap_39 w.params) "TextRow" (.con (.ref 334)) := .inl ⟨_, by k_is, fun W => .con _⟩
theorem k_TextRow : KeepOk PP w (hd.heap_39 w.params) (.ref 334) := keep_own (by k_is)
theorem g_law_deck : GlobIs (hd.heap_39 w.params) "_law_deck" (.con (.ref 343)) := .inl ⟨_, by k_is, fun W => .con _⟩
theorem k_law_deck : KeepOk PP w (hd.heap_39 w.params) (.ref 343) := keep_own (by k_is)
theorem g_law_draw : GlobIs (hd.heap_39 w.params) "_law_draw" (.con (.ref 350)) := .inl ⟨_, by k_is, fun W => .con _⟩
theorem k_law_draw : KeepOk PP w (hd.heap_39 w.params) (.ref 350) := keep_own (by k_is)
theorem g_law_many : GlobIs (hd.heap_39 w.params) "_law_many" (.con (.ref 355)) := .inl ⟨_, by k_is, fun W => .con _⟩
theorem k_law_many : KeepOk PP w (hd.heap_39 w.params) (.ref 355) := keep_own (by k_is)
theorem g_law_runs : GlobIs (hd.heap_39 w.params) "_law_runs" (.con (.ref 362)) := .inl ⟨_, by k_is, fun W => .con _⟩
theorem k_law_runs : KeepOk PP w (hd.heap_39 w.params) (.ref 362) := keep_own (by k_is)
theorem g_law_due : GlobIs (hd.heap_39 w.params) "_law_due" (.con (.ref 367)) := .inl ⟨_, by k_is, fun W => .con _⟩
theorem k_law_due : KeepOk PP w (hd.heap_39 w.params) (.ref 367) := keep_own (by k_is)
theorem g_law_around : GlobIs (hd.heap_39 w.params) "_law_around" (.con (.ref 372)) := .inl ⟨_, by k_is, fun W => .con _⟩
theorem k_law_around : KeepOk PP w (hd.heap_39 w.params) (.ref 372) := keep_own (by k_is)
theorem g_law_skipped : GlobIs (hd.heap_39 w.params) "_law_skipped" (.con (.ref 379)) := .inl ⟨_, by k_is, fun W => .con _⟩
theorem k_law_skipped : KeepOk PP w (hd.heap_39 w.params) (.ref 379) := keep_own (by k_is)
theorem g_law_moves_right : GlobIs (hd.heap_39 w.params) "_law_moves_right" (.con (.ref 386)) := .inl ⟨_, by k_is, fun W => .con _⟩
theorem k_law_moves_right : KeepOk PP w (hd.heap_39 w.params) (.ref 386) := keep_own (by k_is)
theorem g_law_skips_right : GlobIs (hd.heap_39 w.params) "_law_skips_right" (.con (.ref 391)) := .inl ⟨_, by k_is, fun W => .con _⟩
theorem k_law_skips_right : KeepOk PP w (hd.heap_39 w.params) (.ref 391) := keep_own (by k_is)
theorem g_WHITESPACE : GlobIs (hd.heap_39 w.params) "WHITESPACE" (.str " ") := .inl ⟨_, by k_is, fun W => .str _ _⟩
theorem g_WORD : GlobIs (hd.heap_39 w.params) "WORD" (.str "w") := .inl ⟨_, by k_is, fun W => .str _ _⟩
theorem g_SYMBOL : GlobIs (hd.heap_39 w.params) "SYMBOL" (.str "_") := .inl ⟨_, by k_is, fun W => .str _ _⟩
theorem g_PUNCTUATION : GlobIs (hd.heap_39 w.params) "PUNCTUATION" (.str ".") := .inl ⟨_, by k_is, fun W => .str _ _⟩
theorem g_INHERITS : GlobIs (hd.heap_39 w.params) "INHERITS" (.str "@") := .inl ⟨_, by k_is, fun W => .str _ _⟩
theorem g_KINDS : GlobIs (hd.heap_39 w.params) "KINDS" (.str " w_.()'\"\\/$<>@!|") := .inl ⟨_, by k_is, fun W => .str _ _⟩
theorem g_FLAGS : GlobIs (hd.heap_39 w.params) "FLAGS" (.str "1234bcnp") := .inl ⟨_, by k_is, fun W => .str _ _⟩
theorem g_len : GlobIs (hd.heap_39 w.params) "len" (.con (.builtin "len")) := .inr ⟨_, by k_is, rfl, by decide, fun W => .con _⟩
theorem g_min : GlobIs (hd.heap_39 w.params) "min" (.con (.builtin "min")) := .inr ⟨_, by k_is, rfl, by decide, fun W => .con _⟩
theorem g_max : GlobIs (hd.heap_39 w.params) "max" (.con (.builtin "max")) := .inr ⟨_, by k_is, rfl, by decide, fun W => .con _⟩
theorem g_range : GlobIs (hd.heap_39 w.params) "range" (.con (.type "range")) := .inr ⟨_, by k_is, rfl, by decide, fun W => .con _⟩
theorem g_ord : GlobIs (hd.heap_39 w.params) "ord" (.con (.builtin "ord")) := .inr ⟨_, by k_is, rfl, by decide, fun W => .con _⟩
theorem g_abs : GlobIs (hd.heap_39 w.params) "abs" (.con (.builtin "abs")) := .inr ⟨_, by k_is, rfl, by decide, fun W => .con _⟩
theorem g_sum : GlobIs (hd.heap_39 w.params) "sum" (.con (.builtin "sum")) := .inr ⟨_, by k_is, rfl, by decide, fun W => .con _⟩
theorem g_all : GlobIs (hd.heap_39 w.params) "all" (.con (.builtin "all")) := .inr ⟨_, by k_is, rfl, by decide, fun W => .con _⟩
theorem g_list : GlobIs (hd.heap_39 w.params) "list" (.con (.type "list")) := .inr ⟨_, by k_is, rfl, by decide, fun W => .con _⟩
theorem a_codes : AttrOk (hd.heap_39 w.params) 334 "codes" := ⟨by k_is, by k_is, _, by k_is, by k_is⟩
theorem a_place : AttrOk (hd.heap_39 w.params) 334 "place" := ⟨by k_is, by k_is, _, by k_is, by k_is⟩
theorem a_parent : AttrOk (hd.heap_39 w.params) 228 "parent" := ⟨by k_is, by k_is, _, by k_is, by k_is⟩
theorem a_rows : AttrOk (hd.heap_39 w.params) 228 "rows" := ⟨by k_is, by k_is, _, by k_is, by k_is⟩
theorem a_kind : AttrOk (hd.heap_39 w.params) 147 "kind" := ⟨by k_is, by k_is, _, by k_is, by k_is⟩
theorem s_codes : SetOk (hd.heap_39 w.params) 334 "codes" := ⟨by k_is, by k_is, by k_is, by k_is⟩
theorem s_place : SetOk (hd.heap_39 w.params) 334 "place" := ⟨by k_is, by k_is, by k_is, by k_is⟩
theorem s_parent : SetOk (hd.heap_39 w.params) 228 "parent" := ⟨by k_is, by k_is, by k_is, by k_is⟩
theorem s_rows : SetOk (hd.heap_39 w.params) 228 "rows" := ⟨by k_is, by k_is, by k_is, by k_is⟩
theorem s_kind : SetOk (hd.heap_39 w.params) 147 "kind" := ⟨by k_is, by k_is, by k_is, by k_is⟩
theorem s_match : SetOk (hd.heap_39 w.params) 147 "match" := ⟨by k_is, by k_is, by k_is, by k_is⟩
theorem s_flags : SetOk (hd.heap_39 w.params) 147 "flags" := ⟨by k_is, by k_is, by k_is, by k_is⟩
theorem m_begin : MethOk (hd.heap_39 w.params) 334 "begin" 317 := ⟨by k_is, by k_is, by k_is⟩
theorem k_begin : KeepOk PP w (hd.heap_39 w.params) (.ref 317) := keep_own (by k_is)
theorem m_end : MethOk (hd.heap_39 w.params) 334 "end" 324 := ⟨by k_is, by k_is, by k_is⟩
theorem k_end : KeepOk PP w (hd.heap_39 w.params) (.ref 324) := keep_own (by k_is)
theorem m_code_at : MethOk (hd.heap_39 w.params) 334 "code_at" 331 := ⟨by k_is, by k_is, by k_is⟩
theorem k_code_at : KeepOk PP w (hd.heap_39 w.params) (.ref 331) := keep_own (by k_is)
theorem m_own : MethOk (hd.heap_39 w.params) 228 "own" 204 := ⟨by k_is, by k_is, by k_is⟩
theorem k_own : KeepOk PP w (hd.heap_39 w.params) (.ref 204) := keep_own (by k_is)
theorem m_at : MethOk (hd.heap_39 w.params) 228 "at" 211 := ⟨by k_is, by k_is, by k_is⟩
theorem k_at : KeepOk PP w (hd.heap_39 w.params) (.ref 211) := keep_own (by k_is)
theorem m_modify_all : MethOk (hd.heap_39 w.params) 228 "modify_all" 190 := ⟨by k_is, by k_is, by k_is⟩
theorem k_modify_all : KeepOk PP w (hd.heap_39 w.params) (.ref 190) := keep_own (by k_is)
theorem mk_row : makesIn (hd.heap_39 w.params) 334 = true := by k_is
theorem mi_row : findIn (hd.heap_39 w.params) (.ref 334) "__init__" = some (some (.ref 310)) := by k_is
theorem mf_row : typeIn (hd.heap_39 w.params) (.ref 310) = some (.type "function") := by k_is
theorem mk_tab : makesIn (hd.heap_39 w.params) 228 = true := by k_is
theorem mi_tab : findIn (hd.heap_39 w.params) (.ref 228) "__init__" = some (some (.ref 176)) := by k_is
theorem mf_tab : typeIn (hd.heap_39 w.params) (.ref 176) = some (.type "function") := by k_is
theorem mk_syn : makesIn (hd.heap_39 w.params) 147 = true := by k_is
theorem mi_syn : findIn (hd.heap_39 w.params) (.ref 147) "__init__" = some (some (.ref 116)) := by k_is
theorem mf_syn : typeIn (hd.heap_39 w.params) (.ref 116) = some (.type "function") := by k_is
end

set_option bootstrap.genMatcherCode true
local macro_rules | `(tactic| walk_at "setfm") => `(tactic| repeat (first | exact set_nil | exact set_hit | (apply set_miss; decide)))
local macro_rules | `(tactic| walk_at "look") => `(tactic| repeat (first | exact look_hit | exact look_nil | (apply look_miss; decide)))
local macro_rules | `(tactic| walk_at "got") => `(tactic| first | assumption | exact get_last | (apply get_left; walk_at "got"))
local macro_rules | `(tactic| walk_at "attr") => `(tactic| first | exact a_place _ | exact a_codes _ | exact a_rows _ | exact a_kind _ | exact a_parent _)
local macro_rules | `(tactic| walk_at "size") => `(tactic| first | omega | (simp only [List.length_map, List.length_append, List.length_cons, List.length_nil, List.length_singleton]; omega))
local macro_rules | `(tactic| walk_at "fle") => `(tactic| repeat (first | exact fl_nil | (apply fl_cons; walk_at "look")))
local macro_rules | `(tactic| walk_at "subx") => `(tactic| (refine ws_subD ?_ ?_; rfl))
local macro_rules | `(tactic| walk_at "vwx") => `(tactic| fail)
local macro_rules | `(tactic| walk_at "binx") => `(tactic| fail)
local macro_rules | `(tactic| walk_at "go1") => `(tactic| first
  | (refine wb_cons ?_)
  | (apply we_local; rfl; rfl; walk_at "look"; rfl)
  | (refine we_int ?_)
  | (refine we_bin ?_)
  | (refine we_cmp ?_ ?_; rfl)
  | (refine wt_cmp ?_ ?_; rfl)
  | (refine ws_return ?_)
  | (refine ws_if ?_)
  | (refine ws_name ?_ ?_ ?_ ?_; rfl; rfl; rfl)
  | (apply set_step; walk_at "setfm")
  | (refine th_next ?_)
  | (refine th_ret ?_)
  | (refine wt_chain ?_ ?_; rfl)
  | (refine wt_bool ?_)
  | (refine wall_and ?_)
  | (refine wall_or ?_)
  | (refine wall_and1 ?_)
  | (refine wall_or1 ?_)
  | (refine we_str ?_)
  | (refine we_cbool ?_)
  | (refine we_none ?_)
  | (refine br_t ?_)
  | (refine br_f ?_)
  | (refine we_tuple ?_)
  | (refine we_list ?_)
  | (refine wl_cons ?_ ?_; rfl)
  | (refine wl_nil ?_)
  | (refine we_if ?_)
  | (refine wt_not ?_)
  | (refine we_un ?_)
  | (refine we_bool ?_)
  | (refine wbo_and ?_)
  | (refine wbo_one ?_)
  | (refine we_attr ?_ ?_; rfl)
  | (apply ex_has; walk_at "got"; walk_at "got"; walk_at "attr"; walk_at "look"; rfl)
  | (refine we_sub ?_ ?_; rfl)
  | (refine we_callG (g_len _) keep_builtin ?_ ?_ ?_ ?_; rfl; rfl; rfl)
  | (refine we_callG (g_min _) keep_builtin ?_ ?_ ?_ ?_; rfl; rfl; rfl)
  | (refine we_callG (g_max _) keep_builtin ?_ ?_ ?_ ?_; rfl; rfl; rfl)
  | (apply wc_len; walk_at "got"; walk_at "size")
  | (refine wc_of C_min ?_)
  | (refine wc_of C_max ?_)
  | (refine we_meth ?_ ?_ ?_ ?_ ?_; rfl; rfl; rfl; rfl)
  | (refine ws_expr ?_ ?_; rfl)
  | (refine wb_nil ?_)
  | (refine and_eq ?_ ?_; rfl)
  | walk_at "binx"
  | (apply ex_some; rfl)
  | (apply ex_some; apply cmp_in; walk_at "got")
  | walk_at "vwx"
  | (refine wt_plain ?_ ?_; rfl)
  | (apply we_localC; rfl; rfl; walk_at "look"; rfl)
  | (apply we_cell; rfl; walk_at "look"; walk_at "got"; rfl)
  | (apply wc_lenS; walk_at "size")
  | (refine we_callG (g_ord _) keep_builtin ?_ ?_ ?_ ?_; rfl; rfl; rfl)
  | (refine we_callG (g_all _) keep_builtin ?_ ?_ ?_ ?_; rfl; rfl; rfl)
  | (refine we_callG (g_sum _) keep_builtin ?_ ?_ ?_ ?_; rfl; rfl; rfl)
  | (refine we_callG (g_abs _) keep_builtin ?_ ?_ ?_ ?_; rfl; rfl; rfl)
  | (refine we_callG (g_range _) keep_type ?_ ?_ ?_ ?_; rfl; rfl; rfl)
  | (refine wc_of C_ord ?_)
  | (refine wc_of C_abs ?_)
  | (refine wc_of C_range1 ?_)
  | (refine wc_of C_range2 ?_)
  | (refine wp_none ?_)
  | (refine wp_some ?_)
  | (refine wa_tuple ?_)
  | (refine was_name ?_ ?_ ?_; rfl; rfl)
  | (refine was_nil ?_)
  | (refine wa_name ?_ ?_ ?_; rfl; rfl)
  | (refine ft_next ?_)
  | (refine ft_ret ?_)
  | (refine wn_name ?_ ?_ ?_; rfl; rfl)
  | (refine wn_nil ?_)
  | (refine wi_nil ?_)
  | (refine wi_one ?_)
  | (refine ws_attr ?_ ?_; rfl)
  | walk_at "subx"
  | (with_reducible exact rfl))
local macro_rules | `(tactic| walk_at "go") => `(tactic| repeat walk_at "go1")
set_option bootstrap.genMatcherCode false
/-- a view -/
structure VAt (vh : VH) (V : Nat) (cs : List Int) (p : Int) : Prop where
  out : ∃ d l, vh[V]? = some (.inst 334 d) ∧ vh[d]? = some (.ns [("codes", .ref l), ("place", .int p)]) ∧ vh[l]? = some (.list (cs.map .int)) ∧ cs.length ≤ 1000
/-- the code at a place -/
noncomputable def codeAt (cs : List Int) (p at' : Int) : Int := if p ≤ at' ∧ at' < p + cs.length then cs.getD (at' - p).toNat 0 else -1
section
variable (w : World) {b : Nat} {vh : VH} {V : Nat} {cs : List Int} {p : Int}
theorem begin_ok (h : VAt vh V cs p) : WC PP w (hd.heap_39 w.params) (b + 1) (.ref 317) [.ref V] vh fun y vh' => y = .int p ∧ vh' = vh := by
  obtain ⟨d, l, h1, h2, h3, h4⟩ := h
  refine WK.call ?_
  refine' wk_fun (dx := []) (dv := []) (ps := ["self"]) ?ho ?hcd ?hbind ?hdv ?hnd ?hlen ?hloc ?hcell ?hco ?hgen ?hk ?hbody
  case ho => k_is
  case hcd => k_is
  case hbind => intro s vs X hl; obtain ⟨v0, rfl⟩ := lst1 (l := vs) hl; exact kp_binds X fun S => rfl
  case hdv => exact fun W => .nil
  case hnd => decide
  case hlen => rfl
  case hloc => decide
  case hcell => decide
  case hco => rfl
  case hgen => rfl
  case hk => rfl
  dsimp only [List.zip, List.zipWith, List.map, List.append_eq, List.append, List.nil_append, List.cons_append]
  walk_at "go"
theorem end_ok (h : VAt vh V cs p) : WC PP w (hd.heap_39 w.params) (b + 1) (.ref 324) [.ref V] vh fun y vh' => y = .int (p + cs.length) ∧ vh' = vh := by
  obtain ⟨d, l, h1, h2, h3, h4⟩ := h
  refine WK.call ?_
  refine' wk_fun (dx := []) (dv := []) (ps := ["self"]) ?ho ?hcd ?hbind ?hdv ?hnd ?hlen ?hloc ?hcell ?hco ?hgen ?hk ?hbody
  case ho => k_is
  case hcd => k_is
  case hbind => intro s vs X hl; obtain ⟨v0, rfl⟩ := lst1 (l := vs) hl; exact kp_binds X fun S => rfl
  case hdv => exact fun W => .nil
  case hnd => decide
  case hlen => rfl
  case hloc => decide
  case hcell => decide
  case hco => rfl
  case hgen => rfl
  case hk => rfl
  dsimp only [List.zip, List.zipWith, List.map, List.append_eq, List.append, List.nil_append, List.cons_append]
  walk_at "go"
  refine ⟨by rw [List.length_map]; rfl, rfl⟩
theorem code_at_ok (h : VAt vh V cs p) (q : Int) : WC PP w (hd.heap_39 w.params) (b + 1) (.ref 331) [.ref V, .int q] vh fun y vh' => y = .int (codeAt cs p q) ∧ vh' = vh := by
  obtain ⟨d, l, h1, h2, h3, h4⟩ := h
  refine WK.call ?_
  refine' wk_fun (dx := []) (dv := []) (ps := ["self", "place"]) ?ho ?hcd ?hbind ?hdv ?hnd ?hlen ?hloc ?hcell ?hco ?hgen ?hk ?hbody
  case ho => k_is
  case hcd => k_is
  case hbind => intro s vs X hl; obtain ⟨v0, v1, rfl⟩ := lst2 (l := vs) hl; exact kp_binds X fun S => rfl
  case hdv => exact fun W => .nil
  case hnd => decide
  case hlen => rfl
  case hloc => decide
  case hcell => decide
  case hco => rfl
  case hgen => rfl
  case hk => rfl
  dsimp only [List.zip, List.zipWith, List.map, List.append_eq, List.append, List.nil_append, List.cons_append]
  walk_at "go"
  refine br_i (fun c1 => ?_) (fun c1 => ?_)
  · walk_at "go"
    refine br_i (fun c2 => ?_) (fun c2 => ?_)
    · walk_at "go"
      simp only [decide_eq_true_eq, List.length_map] at c1 c2
      refine ⟨_, .list h3 (by omega) (by omega) (x := .int (cs.getD (q - p).toNat 0)) ?_, ?_⟩
      · have h5 : (q - p).toNat < cs.length := by omega
        rw [List.getElem?_map, List.getD_eq_getElem?_getD, List.getElem?_eq_getElem h5]; rfl
      walk_at "go"
      refine ⟨?_, rfl⟩
      rw [codeAt, if_pos ⟨c1, c2⟩]; rfl
    · walk_at "go"
      simp only [decide_eq_true_eq, decide_eq_false_iff_not, List.length_map] at c1 c2
      refine ⟨?_, rfl⟩
      rw [codeAt, if_neg (fun z => c2 z.2)]; rfl
  · walk_at "go"
    simp only [decide_eq_true_eq, decide_eq_false_iff_not, List.length_map] at c1
    refine ⟨?_, rfl⟩
    rw [codeAt, if_neg (fun z => c1 z.1)]; rfl
theorem VAt.meth (h : VAt vh V cs p) {n : Str} {f : Addr} (hm : MethOk (hd.heap_39 w.params) 334 n f) (n1 : n ≠ "codes") (n2 : n ≠ "place") : TrM PP w (hd.heap_39 w.params) (.ref V) n vh (.ref f) := by
  obtain ⟨d, l, h1, h2, h3, h4⟩ := h
  exact M_inst h1 h2 (look_miss n1 (look_miss n2 look_nil)) hm
theorem VAt.len (h : VAt vh V cs p) : cs.length ≤ 1000 := by
  obtain ⟨d, l, h1, h2, h3, h4⟩ := h; exact h4

/-- a syntax of kind k -/
structure SAt (vh : VH) (s : Nat) (k : Str) : Prop where
  out : ∃ d m f, vh[s]? = some (.inst 147 d) ∧ vh[d]? = some (.ns [("kind", .str k), ("match", m), ("flags", f)])
/-- a table -/
structure TAt (vh : VH) (T : Nat) (g : Int → Option Str) : Prop where
  out : ∃ d r kvs, vh[T]? = some (.inst 228 d) ∧ vh[d]? = some (.ns [("parent", .none), ("rows", .ref r)]) ∧ vh[r]? = some (.idict kvs) ∧ ∀ c k, g c = some k → ∃ s, intMapGet kvs c = some (.ref s) ∧ SAt vh s k
variable {T : Nat} {g : Int → Option Str} {κ : Int → Str}
theorem TAt.meth (h : TAt vh T g) {n : Str} {f : Addr} (hm : MethOk (hd.heap_39 w.params) 228 n f) (n1 : n ≠ "parent") (n2 : n ≠ "rows") : TrM PP w (hd.heap_39 w.params) (.ref T) n vh (.ref f) := by
  obtain ⟨d, r, kvs, h1, h2, h3, h4⟩ := h
  exact M_inst h1 h2 (look_miss n1 (look_miss n2 look_nil)) hm
theorem own_ok (h : TAt vh T g) {c : Int} {k : Str} (hc : g c = some k) (hk : k ≠ "@") : WC PP w (hd.heap_39 w.params) (b + 1) (.ref 204) [.ref T, .int c] vh fun y vh' => (∃ s, y = .ref s ∧ SAt vh s k) ∧ vh' = vh := by
  obtain ⟨d, r, kvs, h1, h2, h3, h4⟩ := h
  obtain ⟨s, h5, h6⟩ := h4 c k hc
  have h6' := h6
  obtain ⟨d2, m, f, h7, h8⟩ := h6
  refine WK.call ?_
  refine' wk_fun (dx := []) (dv := []) (ps := ["self", "code"]) ?ho ?hcd ?hbind ?hdv ?hnd ?hlen ?hloc ?hcell ?hco ?hgen ?hk ?hbody
  case ho => k_is
  case hcd => k_is
  case hbind => intro s vs X hl; obtain ⟨v0, v1, rfl⟩ := lst2 (l := vs) hl; exact kp_binds X fun S => rfl
  case hdv => exact fun W => .nil
  case hnd => decide
  case hlen => rfl
  case hloc => decide
  case hcell => decide
  case hco => rfl
  case hgen => rfl
  case hk => rfl
  dsimp only [List.zip, List.zipWith, List.map, List.append_eq, List.append, List.nil_append, List.cons_append]
  walk_at "go"
  refine ⟨_, M_idict h3 PySem.F.slot_dict_get PySem.F.type_dict_get, keep_builtin, ?_⟩
  walk_at "go"
  refine wc_of (C_get h3) ?_
  rw [h5]; dsimp only [Option.getD]
  walk_at "go"
  refine we_glob (g_INHERITS w) (by rfl) (by rfl) ?_
  walk_at "go"
  rw [beq_eq_false_iff_ne.mpr hk]
  walk_at "go"
  exact ⟨⟨s, rfl, h6'⟩, rfl⟩
theorem at_ok (h : TAt vh T g) {c : Int} {k : Str} (hc : g c = some k) (hk : k ≠ "@") : WC PP w (hd.heap_39 w.params) (b + 2) (.ref 211) [.ref T, .int c] vh fun y vh' => (∃ s, y = .ref s ∧ SAt vh s k) ∧ vh' = vh := by
  refine WK.call ?_
  refine' wk_fun (dx := []) (dv := []) (ps := ["self", "code"]) ?ho ?hcd ?hbind ?hdv ?hnd ?hlen ?hloc ?hcell ?hco ?hgen ?hk ?hbody
  case ho => k_is
  case hcd => k_is
  case hbind => intro s vs X hl; obtain ⟨v0, v1, rfl⟩ := lst2 (l := vs) hl; exact kp_binds X fun S => rfl
  case hdv => exact fun W => .nil
  case hnd => decide
  case hlen => rfl
  case hloc => decide
  case hcell => decide
  case hco => rfl
  case hgen => rfl
  case hk => rfl
  dsimp only [List.zip, List.zipWith, List.map, List.append_eq, List.append, List.nil_append, List.cons_append]
  walk_at "go"
  refine ws_while (α := Unit) (fun _ => [("self", some (.ref T)), ("code", some (.int c)), ("table", some (.ref T))]) (fun _ => vh) (fun _ => True) (fun _ => 0) () trivial fl_refl rfl fun _ _ => ?_
  walk_at "go"
  refine ⟨_, h.meth w (m_own w) (by decide) (by decide), k_own w, ?_⟩
  walk_at "go"
  refine WC.mono (own_ok w h hc hk) ?_
  rintro _ _ ⟨⟨s, rfl, hs⟩, rfl⟩
  walk_at "go"
  exact .inr ⟨⟨_, rfl⟩, th_ret ⟨⟨s, rfl, hs⟩, rfl⟩⟩
/-- the text and its syntax table -/
structure Doc (vh : VH) (V T : Nat) (cs : List Int) (p : Int) (κ : Int → Str) : Prop where
  v : VAt vh V cs p
  t : ∃ g, TAt vh T g ∧ ∀ c ∈ cs, g c = some (κ c) ∧ κ c ≠ "@" ∧ 0 ≤ c
/-- a place within the text -/
noncomputable def within (cs : List Int) (p q : Int) : Bool := decide (p ≤ q ∧ q < p + cs.length)
theorem codeAt_in {q : Int} (h : within cs p q = true) : codeAt cs p q = cs.getD (q - p).toNat 0 ∧ codeAt cs p q ∈ cs := by
  have h := of_decide_eq_true h
  have h5 : (q - p).toNat < cs.length := by omega
  rw [codeAt, if_pos h]
  refine ⟨rfl, ?_⟩
  rw [List.getD_eq_getElem?_getD, List.getElem?_eq_getElem h5]
  exact List.getElem_mem h5
theorem codeAt_out {q : Int} (h : within cs p q = false) : codeAt cs p q = -1 := by
  have h := of_decide_eq_false h
  rw [codeAt, if_neg h]
theorem syntax_at_ok (h : Doc vh V T cs p κ) (q : Int) : WC PP w (hd.heap_39 w.params) (b + 3) (.ref 28) [.ref V, .ref T, .int q] vh fun y vh' => (if within cs p q = true then ∃ s, y = .ref s ∧ SAt vh s (κ (codeAt cs p q)) else y = .none) ∧ vh' = vh := by
  obtain ⟨hv, g, ht, hg⟩ := h
  refine WK.call ?_
  refine' wk_fun (dx := []) (dv := []) (ps := ["view", "table", "place"]) ?ho ?hcd ?hbind ?hdv ?hnd ?hlen ?hloc ?hcell ?hco ?hgen ?hk ?hbody
  case ho => k_is
  case hcd => k_is
  case hbind => intro s vs X hl; obtain ⟨v0, v1, v2, rfl⟩ := lst3 (l := vs) hl; exact kp_binds X fun S => rfl
  case hdv => exact fun W => .nil
  case hnd => decide
  case hlen => rfl
  case hloc => decide
  case hcell => decide
  case hco => rfl
  case hgen => rfl
  case hk => rfl
  dsimp only [List.zip, List.zipWith, List.map, List.append_eq, List.append, List.nil_append, List.cons_append]
  walk_at "go"
  refine ⟨_, (hv.meth w (m_code_at w) (by decide) (by decide)), (k_code_at w), ?_⟩
  walk_at "go"
  refine WC.same (code_at_ok w hv q) ?_
  walk_at "go"
  by_cases hq : within cs p q = true
  · obtain ⟨-, e2⟩ := codeAt_in hq
    obtain ⟨e3, e4, e5⟩ := hg _ e2
    rw [decide_eq_false (show ¬ codeAt cs p q < 0 by omega)]
    walk_at "go"
    refine ⟨_, ht.meth w (m_at w) (by decide) (by decide), k_at w, ?_⟩
    walk_at "go"
    refine WC.mono (at_ok w ht e3 e4) ?_
    rintro _ _ ⟨⟨s, rfl, hs⟩, rfl⟩
    walk_at "go"
    exact ⟨by rw [if_pos hq]; exact ⟨s, rfl, hs⟩, rfl⟩
  · have hq' : within cs p q = false := by simpa using hq
    rw [codeAt_out hq']
    walk_at "go"
    exact ⟨by rw [if_neg hq]; rfl, rfl⟩
noncomputable def isOf (cs : List Int) (p : Int) (κ : Int → Str) (kinds : Str) (neg : Bool) (q : Int) : Bool := within cs p q && (strIn (κ (codeAt cs p q)) kinds != neg)
theorem is_of_ok (h : Doc vh V T cs p κ) (q : Int) (kinds : Str) (neg : Bool) : WC PP w (hd.heap_39 w.params) (b + 4) (.ref 36) [.ref V, .ref T, .int q, .str kinds, .bool neg] vh fun y vh' => y = .bool (isOf cs p κ kinds neg q) ∧ vh' = vh := by
  refine WK.call ?_
  refine' wk_fun (dx := []) (dv := []) (ps := ["view", "table", "place", "kinds", "is_negated"]) ?ho ?hcd ?hbind ?hdv ?hnd ?hlen ?hloc ?hcell ?hco ?hgen ?hk ?hbody
  case ho => k_is
  case hcd => k_is
  case hbind => intro s vs X hl; obtain ⟨v0, v1, v2, v3, v4, rfl⟩ := lst5 (l := vs) hl; exact kp_binds X fun S => rfl
  case hdv => exact fun W => .nil
  case hnd => decide
  case hlen => rfl
  case hloc => decide
  case hcell => decide
  case hco => rfl
  case hgen => rfl
  case hk => rfl
  dsimp only [List.zip, List.zipWith, List.map, List.append_eq, List.append, List.nil_append, List.cons_append]
  walk_at "go"
  refine we_callG (g_syntax_at w) (k_syntax_at w) (by rfl) (by rfl) (by rfl) ?_
  walk_at "go"
  refine WC.mono (syntax_at_ok w h q) ?_
  rintro y _ ⟨h1, rfl⟩
  by_cases hq : within cs p q = true
  · rw [if_pos hq] at h1
    obtain ⟨s, rfl, hs⟩ := h1
    obtain ⟨d2, m, f, h7, h8⟩ := hs
    walk_at "go"
    exact ⟨by rw [isOf, hq]; rfl, rfl⟩
  · rw [if_neg hq] at h1
    subst h1
    walk_at "go"
    exact ⟨by rw [isOf, Bool.eq_false_iff.mpr hq]; rfl, rfl⟩
end

/-- on while P holds: at most n steps -/
noncomputable def skipF (P : Int → Bool) : Nat → Int → Int
  | 0, a => a
  | n + 1, a => if P a = true then skipF P n (a + 1) else a
noncomputable def skipB (P : Int → Bool) : Nat → Int → Int
  | 0, a => a
  | n + 1, a => if P (a - 1) = true then skipB P n (a - 1) else a
theorem skipF_stop {P : Int → Bool} {a limit : Int} (h : ¬ a < limit) : skipF P (limit - a).toNat a = a := by
  rw [tZ h]; rfl
theorem skipF_no {P : Int → Bool} {a : Int} {n : Nat} (h : P a = false) : skipF P n a = a := by
  cases n with
  | zero => rfl
  | succ n => rw [skipF, h, if_neg (by simp)]
theorem skipF_yes {P : Int → Bool} {a limit : Int} (hl : a < limit) (h : P a = true) : skipF P (limit - (a + 1)).toNat (a + 1) = skipF P (limit - a).toNat a := by
  rw [tUp hl, skipF, if_pos h]
theorem skipB_stop {P : Int → Bool} {a limit : Int} (h : ¬ limit < a) : skipB P (a - limit).toNat a = a := by
  rw [tZ h]; rfl
theorem skipB_no {P : Int → Bool} {a : Int} {n : Nat} (h : P (a - 1) = false) : skipB P n a = a := by
  cases n with
  | zero => rfl
  | succ n => rw [skipB, h, if_neg (by simp)]
theorem skipB_yes {P : Int → Bool} {a limit : Int} (hl : limit < a) (h : P (a - 1) = true) : skipB P (a - 1 - limit).toNat (a - 1) = skipB P (a - limit).toNat a := by
  rw [tDn hl, skipB, if_pos h]
section
variable (w : World) {b : Nat} {vh : VH} {V T : Nat} {cs : List Int} {p : Int} {κ : Int → Str}
theorem skip_forward6_ok (h : Doc vh V T cs p κ) (at' limit : Int) (kinds : Str) (neg : Bool) : WC PP w (hd.heap_39 w.params) (b + 5) (.ref 44) [.ref V, .ref T, .int at', .int limit, .str kinds, .bool neg] vh fun y vh' => y = .int (skipF (isOf cs p κ kinds neg) (limit - at').toNat at') ∧ vh' = vh := by
  refine WK.call ?_
  refine' wk_fun (dx := []) (dv := []) (ps := ["view", "table", "at", "limit", "kinds", "is_negated"]) ?ho ?hcd ?hbind ?hdv ?hnd ?hlen ?hloc ?hcell ?hco ?hgen ?hk ?hbody
  case ho => k_is
  case hcd => k_is
  case hbind => intro s vs X hl; obtain ⟨v0, v1, v2, v3, v4, v5, rfl⟩ := lst6 (l := vs) hl; exact kp_binds X fun S => rfl
  case hdv => exact fun W => .nil
  case hnd => decide
  case hlen => rfl
  case hloc => decide
  case hcell => decide
  case hco => rfl
  case hgen => rfl
  case hk => rfl
  dsimp only [List.zip, List.zipWith, List.map, List.append_eq, List.append, List.nil_append, List.cons_append]
  walk_at "go"
  refine ws_while (α := Int) (fun a => [("view", some (.ref V)), ("table", some (.ref T)), ("at", some (.int a)), ("limit", some (.int limit)), ("kinds", some (.str kinds)), ("is_negated", some (.bool neg))]) (fun _ => vh) (fun a => skipF (isOf cs p κ kinds neg) (limit - a).toNat a = skipF (isOf cs p κ kinds neg) (limit - at').toNat at') (fun a => (limit - a).toNat) at' rfl fl_refl rfl fun a ha => ?_
  walk_at "go"
  refine br_i (fun c1 => ?_) (fun c1 => ?_)
  · refine wall_and ?_
    refine wt_plain (by rfl) ?_
    refine we_callG (g_is_of w) (k_is_of w) (by rfl) (by rfl) (by rfl) ?_
    walk_at "go"
    refine WC.same (is_of_ok w h a kinds neg) ?_
    walk_at "go"
    refine br_i (fun c2 => ?_) (fun c2 => ?_)
    · walk_at "go"
      replace c1 := of_decide_eq_true c1
      exact .inl ⟨rfl, a + 1, by rw [skipF_yes c1 c2, ha], tUp_lt c1, fl_refl, rfl⟩
    · walk_at "go"
      rw [← ha, skipF_no c2]
      exact ⟨rfl, rfl⟩
  · walk_at "go"
    replace c1 := of_decide_eq_false c1
    rw [← ha, skipF_stop c1]
    exact ⟨rfl, rfl⟩
theorem skip_backward6_ok (h : Doc vh V T cs p κ) (at' limit : Int) (kinds : Str) (neg : Bool) : WC PP w (hd.heap_39 w.params) (b + 5) (.ref 52) [.ref V, .ref T, .int at', .int limit, .str kinds, .bool neg] vh fun y vh' => y = .int (skipB (isOf cs p κ kinds neg) (at' - limit).toNat at') ∧ vh' = vh := by
  refine WK.call ?_
  refine' wk_fun (dx := []) (dv := []) (ps := ["view", "table", "at", "limit", "kinds", "is_negated"]) ?ho ?hcd ?hbind ?hdv ?hnd ?hlen ?hloc ?hcell ?hco ?hgen ?hk ?hbody
  case ho => k_is
  case hcd => k_is
  case hbind => intro s vs X hl; obtain ⟨v0, v1, v2, v3, v4, v5, rfl⟩ := lst6 (l := vs) hl; exact kp_binds X fun S => rfl
  case hdv => exact fun W => .nil
  case hnd => decide
  case hlen => rfl
  case hloc => decide
  case hcell => decide
  case hco => rfl
  case hgen => rfl
  case hk => rfl
  dsimp only [List.zip, List.zipWith, List.map, List.append_eq, List.append, List.nil_append, List.cons_append]
  walk_at "go"
  refine ws_while (α := Int) (fun a => [("view", some (.ref V)), ("table", some (.ref T)), ("at", some (.int a)), ("limit", some (.int limit)), ("kinds", some (.str kinds)), ("is_negated", some (.bool neg))]) (fun _ => vh) (fun a => skipB (isOf cs p κ kinds neg) (a - limit).toNat a = skipB (isOf cs p κ kinds neg) (at' - limit).toNat at') (fun a => (a - limit).toNat) at' rfl fl_refl rfl fun a ha => ?_
  walk_at "go"
  refine br_i (fun c1 => ?_) (fun c1 => ?_)
  · refine wall_and ?_
    refine wt_plain (by rfl) ?_
    refine we_callG (g_is_of w) (k_is_of w) (by rfl) (by rfl) (by rfl) ?_
    walk_at "go"
    refine WC.same (is_of_ok w h (a - 1) kinds neg) ?_
    walk_at "go"
    refine br_i (fun c2 => ?_) (fun c2 => ?_)
    · walk_at "go"
      replace c1 := of_decide_eq_true c1
      exact .inl ⟨rfl, a - 1, by rw [skipB_yes c1 c2, ha], tDn_lt c1, fl_refl, rfl⟩
    · walk_at "go"
      rw [← ha, skipB_no c2]
      exact ⟨rfl, rfl⟩
  · walk_at "go"
    replace c1 := of_decide_eq_false c1
    rw [← ha, skipB_stop c1]
    exact ⟨rfl, rfl⟩
theorem skip_forward5_ok (h : Doc vh V T cs p κ) (at' limit : Int) (kinds : Str) : WC PP w (hd.heap_39 w.params) (b + 5) (.ref 44) [.ref V, .ref T, .int at', .int limit, .str kinds] vh fun y vh' => y = .int (skipF (isOf cs p κ kinds false) (limit - at').toNat at') ∧ vh' = vh := by
  refine WK.call ?_
  refine' wk_fun (dx := [.bool false]) (dv := [.bool false]) (ps := ["view", "table", "at", "limit", "kinds", "is_negated"]) ?ho ?hcd ?hbind ?hdv ?hnd ?hlen ?hloc ?hcell ?hco ?hgen ?hk ?hbody
  case ho => k_is
  case hcd => k_is
  case hbind => intro s vs X hl; obtain ⟨v0, v1, v2, v3, v4, rfl⟩ := lst5 (l := vs) hl; exact kp_binds X fun S => rfl
  case hdv => exact fun W => .cons (.bool _) (.nil)
  case hnd => decide
  case hlen => rfl
  case hloc => decide
  case hcell => decide
  case hco => rfl
  case hgen => rfl
  case hk => rfl
  dsimp only [List.zip, List.zipWith, List.map, List.append_eq, List.append, List.nil_append, List.cons_append]
  walk_at "go"
  refine ws_while (α := Int) (fun a => [("view", some (.ref V)), ("table", some (.ref T)), ("at", some (.int a)), ("limit", some (.int limit)), ("kinds", some (.str kinds)), ("is_negated", some (.bool false))]) (fun _ => vh) (fun a => skipF (isOf cs p κ kinds false) (limit - a).toNat a = skipF (isOf cs p κ kinds false) (limit - at').toNat at') (fun a => (limit - a).toNat) at' rfl fl_refl rfl fun a ha => ?_
  walk_at "go"
  refine br_i (fun c1 => ?_) (fun c1 => ?_)
  · refine wall_and ?_
    refine wt_plain (by rfl) ?_
    refine we_callG (g_is_of w) (k_is_of w) (by rfl) (by rfl) (by rfl) ?_
    walk_at "go"
    refine WC.same (is_of_ok w h a kinds false) ?_
    walk_at "go"
    refine br_i (fun c2 => ?_) (fun c2 => ?_)
    · walk_at "go"
      replace c1 := of_decide_eq_true c1
      exact .inl ⟨rfl, a + 1, by rw [skipF_yes c1 c2, ha], tUp_lt c1, fl_refl, rfl⟩
    · walk_at "go"
      rw [← ha, skipF_no c2]
      exact ⟨rfl, rfl⟩
  · walk_at "go"
    replace c1 := of_decide_eq_false c1
    rw [← ha, skipF_stop c1]
    exact ⟨rfl, rfl⟩
theorem skip_backward5_ok (h : Doc vh V T cs p κ) (at' limit : Int) (kinds : Str) : WC PP w (hd.heap_39 w.params) (b + 5) (.ref 52) [.ref V, .ref T, .int at', .int limit, .str kinds] vh fun y vh' => y = .int (skipB (isOf cs p κ kinds false) (at' - limit).toNat at') ∧ vh' = vh := by
  refine WK.call ?_
  refine' wk_fun (dx := [.bool false]) (dv := [.bool false]) (ps := ["view", "table", "at", "limit", "kinds", "is_negated"]) ?ho ?hcd ?hbind ?hdv ?hnd ?hlen ?hloc ?hcell ?hco ?hgen ?hk ?hbody
  case ho => k_is
  case hcd => k_is
  case hbind => intro s vs X hl; obtain ⟨v0, v1, v2, v3, v4, rfl⟩ := lst5 (l := vs) hl; exact kp_binds X fun S => rfl
  case hdv => exact fun W => .cons (.bool _) (.nil)
  case hnd => decide
  case hlen => rfl
  case hloc => decide
  case hcell => decide
  case hco => rfl
  case hgen => rfl
  case hk => rfl
  dsimp only [List.zip, List.zipWith, List.map, List.append_eq, List.append, List.nil_append, List.cons_append]
  walk_at "go"
  refine ws_while (α := Int) (fun a => [("view", some (.ref V)), ("table", some (.ref T)), ("at", some (.int a)), ("limit", some (.int limit)), ("kinds", some (.str kinds)), ("is_negated", some (.bool false))]) (fun _ => vh) (fun a => skipB (isOf cs p κ kinds false) (a - limit).toNat a = skipB (isOf cs p κ kinds false) (at' - limit).toNat at') (fun a => (a - limit).toNat) at' rfl fl_refl rfl fun a ha => ?_
  walk_at "go"
  refine br_i (fun c1 => ?_) (fun c1 => ?_)
  · refine wall_and ?_
    refine wt_plain (by rfl) ?_
    refine we_callG (g_is_of w) (k_is_of w) (by rfl) (by rfl) (by rfl) ?_
    walk_at "go"
    refine WC.same (is_of_ok w h (a - 1) kinds false) ?_
    walk_at "go"
    refine br_i (fun c2 => ?_) (fun c2 => ?_)
    · walk_at "go"
      replace c1 := of_decide_eq_true c1
      exact .inl ⟨rfl, a - 1, by rw [skipB_yes c1 c2, ha], tDn_lt c1, fl_refl, rfl⟩
    · walk_at "go"
      rw [← ha, skipB_no c2]
      exact ⟨rfl, rfl⟩
  · walk_at "go"
    replace c1 := of_decide_eq_false c1
    rw [← ha, skipB_stop c1]
    exact ⟨rfl, rfl⟩
end

theorem SAt.left {vh e : VH} {s : Nat} {k : Str} (h : SAt vh s k) : SAt (vh ++ e) s k := by
  obtain ⟨d, m, f, h1, h2⟩ := h
  exact ⟨d, m, f, get_left h1, get_left h2⟩
theorem VAt.left {vh e : VH} {V : Nat} {cs : List Int} {p : Int} (h : VAt vh V cs p) : VAt (vh ++ e) V cs p := by
  obtain ⟨d, l, h1, h2, h3, h4⟩ := h
  exact ⟨d, l, get_left h1, get_left h2, get_left h3, h4⟩
theorem TAt.left {vh e : VH} {T : Nat} {g : Int → Option Str} (h : TAt vh T g) : TAt (vh ++ e) T g := by
  obtain ⟨d, r, kvs, h1, h2, h3, h4⟩ := h
  refine ⟨d, r, kvs, get_left h1, get_left h2, get_left h3, fun c k hc => ?_⟩
  obtain ⟨s, h5, h6⟩ := h4 c k hc
  exact ⟨s, h5, h6.left⟩
theorem Doc.left {vh e : VH} {V T : Nat} {cs : List Int} {p : Int} {κ : Int → Str} (h : Doc vh V T cs p κ) : Doc (vh ++ e) V T cs p κ := by
  obtain ⟨hv, g, ht, hg⟩ := h
  exact ⟨hv.left, g, ht.left, hg⟩
section
variable (w : World) {b : Nat} {c : Cx} {fm : Fm} {pos : Pos} {vh : VH} {V : Nat} {cs : List Int} {p : Int}
theorem ex_begin {Φ : AV → VH → Prop} (h : VAt vh V cs p) (g : Φ (.int p) vh) : ∃ f, TrM PP w (hd.heap_39 w.params) (.ref V) "begin" vh f ∧ KeepOk PP w (hd.heap_39 w.params) f ∧ WL PP w (hd.heap_39 w.params) (b + 1) c pos [] fm vh fun xs vh2 => WC PP w (hd.heap_39 w.params) (b + 1) f (.ref V :: xs) vh2 Φ :=
  ⟨_, h.meth w (m_begin w) (by decide) (by decide), k_begin w, wl_nil (WC.mono (begin_ok w h) (by rintro _ _ ⟨rfl, rfl⟩; exact g))⟩
theorem ex_end {Φ : AV → VH → Prop} (h : VAt vh V cs p) (g : Φ (.int (p + cs.length)) vh) : ∃ f, TrM PP w (hd.heap_39 w.params) (.ref V) "end" vh f ∧ KeepOk PP w (hd.heap_39 w.params) f ∧ WL PP w (hd.heap_39 w.params) (b + 1) c pos [] fm vh fun xs vh2 => WC PP w (hd.heap_39 w.params) (b + 1) f (.ref V :: xs) vh2 Φ :=
  ⟨_, h.meth w (m_end w) (by decide) (by decide), k_end w, wl_nil (WC.mono (end_ok w h) (by rintro _ _ ⟨rfl, rfl⟩; exact g))⟩
theorem set_last {xs ys : List AV} : (vh ++ [AO.list xs]).set vh.length (.list ys) = vh ++ [.list ys] := by simp
end
set_option bootstrap.genMatcherCode true
local macro_rules | `(tactic| walk_at "vat") => `(tactic| first | assumption | (apply Doc.v; assumption) | (apply VAt.left; walk_at "vat"))
local macro_rules | `(tactic| walk_at "vwx") => `(tactic| first
  | (apply ex_begin; walk_at "vat")
  | (apply ex_end; walk_at "vat"))
set_option bootstrap.genMatcherCode false

/-- a skip to a limit -/
noncomputable def skipTo (P : Int → Bool) (at' limit bg en : Int) : Int := if limit ≥ at' then skipF P ((if en < limit then en else limit) - at').toNat at' else skipB P (at' - (if bg > limit then bg else limit)).toNat at'
noncomputable def amg (cs : List Int) (p : Int) (kvs : List (Int × AV)) (neg : Bool) (q : Int) : Bool := within cs p q && ((intMapGet kvs (codeAt cs p q)).isSome != neg)
/-- on over so many words -/
noncomputable def fwdF (P N : Int → Bool) (e : Int) : Nat → Int → Int × Bool
  | 0, a => (a, true)
  | n + 1, a => if skipF N (e - a).toNat a ≥ e then (e, false) else fwdF P N e n (skipF P (e - skipF N (e - a).toNat a).toNat (skipF N (e - a).toNat a))
noncomputable def fwdB (P N : Int → Bool) (e : Int) : Nat → Int → Int × Bool
  | 0, a => (a, true)
  | n + 1, a => if skipB N (a - e).toNat a ≤ e then (e, false) else fwdB P N e n (skipB P (skipB N (a - e).toNat a - e).toNat (skipB N (a - e).toNat a))
noncomputable def fwd (P N : Int → Bool) (bg en : Int) (at' count : Int) : Int × Bool := if count ≥ 0 then fwdF P N en count.toNat at' else fwdB P N bg (-count).toNat at'
noncomputable def avIB (r : Int × Bool) : AV := .tup [.int r.1, .bool r.2]
noncomputable def avII (r : Int × Int) : AV := .tup [.int r.1, .int r.2]
noncomputable def bnd (P : Int → Bool) (bg en : Int) (at' : Int) : Option (Int × Int) := if skipB P (at' - bg).toNat at' < skipF P (en - at').toNat at' then some (skipB P (at' - bg).toNat at', skipF P (en - at').toNat at') else none
noncomputable def avO : Option (Int × Int) → AV
  | none => .none
  | some r => avII r
section
variable (w : World) {b : Nat} {vh : VH} {V T : Nat} {cs : List Int} {p : Int} {κ : Int → Str}
theorem skip_syntax_ok (h : Doc vh V T cs p κ) (at' limit : Int) (kinds : Str) (neg : Bool) : WC PP w (hd.heap_39 w.params) (b + 6) (.ref 60) [.ref V, .ref T, .int at', .int limit, .str kinds, .bool neg] vh fun y vh' => y = .int (skipTo (isOf cs p κ kinds neg) at' limit p (p + cs.length)) ∧ vh' = vh := by
  refine WK.call ?_
  refine' wk_fun (dx := []) (dv := []) (ps := ["view", "table", "at", "limit", "kinds", "is_negated"]) ?ho ?hcd ?hbind ?hdv ?hnd ?hlen ?hloc ?hcell ?hco ?hgen ?hk ?hbody
  case ho => k_is
  case hcd => k_is
  case hbind => intro s vs X hl; obtain ⟨v0, v1, v2, v3, v4, v5, rfl⟩ := lst6 (l := vs) hl; exact kp_binds X fun S => rfl
  case hdv => exact fun W => .nil
  case hnd => decide
  case hlen => rfl
  case hloc => decide
  case hcell => decide
  case hco => rfl
  case hgen => rfl
  case hk => rfl
  dsimp only [List.zip, List.zipWith, List.map, List.append_eq, List.append, List.nil_append, List.cons_append]
  walk_at "go"
  refine br_i (fun c1 => ?_) (fun c1 => ?_)
  · walk_at "go"
    refine we_callG (g_skip_forward w) (k_skip_forward w) (by rfl) (by rfl) (by rfl) ?_
    walk_at "go"
    refine WC.same (skip_forward6_ok w h _ _ kinds neg) ?_
    walk_at "go"
    exact ⟨by rw [skipTo, if_pos (of_decide_eq_true c1)]; rfl, rfl⟩
  · walk_at "go"
    refine we_callG (g_skip_backward w) (k_skip_backward w) (by rfl) (by rfl) (by rfl) ?_
    walk_at "go"
    refine WC.same (skip_backward6_ok w h _ _ kinds neg) ?_
    walk_at "go"
    exact ⟨by rw [skipTo, if_neg (of_decide_eq_false c1)]; rfl, rfl⟩
theorem is_among_ok (h : VAt vh V cs p) (hc : ∀ c ∈ cs, 0 ≤ c) {D : Nat} {kvs : List (Int × AV)} (hD : vh[D]? = some (.idict kvs)) (q : Int) (neg : Bool) : WC PP w (hd.heap_39 w.params) (b + 2) (.ref 67) [.ref V, .int q, .ref D, .bool neg] vh fun y vh' => y = .bool (amg cs p kvs neg q) ∧ vh' = vh := by
  refine WK.call ?_
  refine' wk_fun (dx := []) (dv := []) (ps := ["view", "place", "codes", "is_negated"]) ?ho ?hcd ?hbind ?hdv ?hnd ?hlen ?hloc ?hcell ?hco ?hgen ?hk ?hbody
  case ho => k_is
  case hcd => k_is
  case hbind => intro s vs X hl; obtain ⟨v0, v1, v2, v3, rfl⟩ := lst4 (l := vs) hl; exact kp_binds X fun S => rfl
  case hdv => exact fun W => .nil
  case hnd => decide
  case hlen => rfl
  case hloc => decide
  case hcell => decide
  case hco => rfl
  case hgen => rfl
  case hk => rfl
  dsimp only [List.zip, List.zipWith, List.map, List.append_eq, List.append, List.nil_append, List.cons_append]
  walk_at "go"
  refine ⟨_, (h.meth w (m_code_at w) (by decide) (by decide)), (k_code_at w), ?_⟩
  walk_at "go"
  refine WC.same (code_at_ok w h q) ?_
  walk_at "go"
  by_cases hq : within cs p q = true
  · obtain ⟨-, e2⟩ := codeAt_in hq
    rw [decide_eq_true (show 0 ≤ codeAt cs p q from hc _ e2)]
    walk_at "go"
    exact ⟨by rw [amg, hq]; rfl, rfl⟩
  · have hq' : within cs p q = false := by simpa using hq
    rw [codeAt_out hq']
    walk_at "go"
    exact ⟨by rw [amg, hq']; rfl, rfl⟩
theorem skip_codes_ok (h : VAt vh V cs p) (hc : ∀ c ∈ cs, 0 ≤ c) {D : Nat} {kvs : List (Int × AV)} (hD : vh[D]? = some (.idict kvs)) (at' limit : Int) (neg : Bool) : WC PP w (hd.heap_39 w.params) (b + 3) (.ref 75) [.ref V, .int at', .int limit, .ref D, .bool neg] vh fun y vh' => y = .int (skipTo (amg cs p kvs neg) at' limit p (p + cs.length)) ∧ vh' = vh := by
  refine WK.call ?_
  refine' wk_fun (dx := []) (dv := []) (ps := ["view", "at", "limit", "codes", "is_negated"]) ?ho ?hcd ?hbind ?hdv ?hnd ?hlen ?hloc ?hcell ?hco ?hgen ?hk ?hbody
  case ho => k_is
  case hcd => k_is
  case hbind => intro s vs X hl; obtain ⟨v0, v1, v2, v3, v4, rfl⟩ := lst5 (l := vs) hl; exact kp_binds X fun S => rfl
  case hdv => exact fun W => .nil
  case hnd => decide
  case hlen => rfl
  case hloc => decide
  case hcell => decide
  case hco => rfl
  case hgen => rfl
  case hk => rfl
  dsimp only [List.zip, List.zipWith, List.map, List.append_eq, List.append, List.nil_append, List.cons_append]
  walk_at "go"
  refine br_i (fun c0 => ?_) (fun c0 => ?_)
  · refine wb_cons ?_
    rw [skipTo, if_pos (of_decide_eq_true c0)]
    generalize he : (if p + (cs.length : Int) < limit then p + (cs.length : Int) else limit) = e
    refine ws_while (α := Int) (fun a => [("view", some (.ref V)), ("at", some (.int a)), ("limit", some (.int limit)), ("codes", some (.ref D)), ("is_negated", some (.bool neg))]) (fun _ => vh) (fun a => skipF (amg cs p kvs neg) (e - a).toNat a = skipF (amg cs p kvs neg) (e - at').toNat at') (fun a => (e - a).toNat) at' rfl fl_refl rfl fun a ha => ?_
    walk_at "go"
    rw [he]
    refine br_i (fun c1 => ?_) (fun c1 => ?_)
    · refine wall_and ?_
      refine wt_plain (by rfl) ?_
      refine we_callG (g_is_among w) (k_is_among w) (by rfl) (by rfl) (by rfl) ?_
      walk_at "go"
      refine WC.same (is_among_ok w h hc hD a neg) ?_
      walk_at "go"
      refine br_i (fun c2 => ?_) (fun c2 => ?_)
      · walk_at "go"
        replace c1 := of_decide_eq_true c1
        exact .inl ⟨rfl, a + 1, by rw [skipF_yes c1 c2, ha], tUp_lt c1, fl_refl, rfl⟩
      · walk_at "go"
        rw [← ha, skipF_no c2]
        exact ⟨rfl, rfl⟩
    · walk_at "go"
      replace c1 := of_decide_eq_false c1
      rw [← ha, skipF_stop c1]
      exact ⟨rfl, rfl⟩
  · walk_at "go"
    rw [skipTo, if_neg (of_decide_eq_false c0)]
    generalize he : (if p > limit then p else limit) = e
    refine ws_while (α := Int) (fun a => [("view", some (.ref V)), ("at", some (.int a)), ("limit", some (.int limit)), ("codes", some (.ref D)), ("is_negated", some (.bool neg))]) (fun _ => vh) (fun a => skipB (amg cs p kvs neg) (a - e).toNat a = skipB (amg cs p kvs neg) (at' - e).toNat at') (fun a => (a - e).toNat) at' rfl fl_refl rfl fun a ha => ?_
    walk_at "go"
    rw [he]
    refine br_i (fun c1 => ?_) (fun c1 => ?_)
    · refine wall_and ?_
      refine wt_plain (by rfl) ?_
      refine we_callG (g_is_among w) (k_is_among w) (by rfl) (by rfl) (by rfl) ?_
      walk_at "go"
      refine WC.same (is_among_ok w h hc hD (a - 1) neg) ?_
      walk_at "go"
      refine br_i (fun c2 => ?_) (fun c2 => ?_)
      · walk_at "go"
        replace c1 := of_decide_eq_true c1
        exact .inl ⟨rfl, a - 1, by rw [skipB_yes c1 c2, ha], tDn_lt c1, fl_refl, rfl⟩
      · walk_at "go"
        rw [← ha, skipB_no c2]
        exact ⟨rfl, rfl⟩
    · walk_at "go"
      replace c1 := of_decide_eq_false c1
      rw [← ha, skipB_stop c1]
      exact ⟨rfl, rfl⟩
end

theorem skipF_ge {P : Int → Bool} : ∀ (n : Nat) (a : Int), a ≤ skipF P n a
  | 0, a => Int.le_refl _
  | n + 1, a => by
    rw [skipF]
    split
    · have := skipF_ge (P := P) n (a + 1); omega
    · exact Int.le_refl _
theorem skipF_le {P : Int → Bool} : ∀ (n : Nat) (a : Int), skipF P n a ≤ a + n
  | 0, a => by show a ≤ _; omega
  | n + 1, a => by
    rw [skipF]
    split
    · have := skipF_le (P := P) n (a + 1); omega
    · omega
theorem skipF_end {P : Int → Bool} : ∀ (n : Nat) (a : Int), skipF P n a < a + n → P (skipF P n a) = false
  | 0, a, h => by rw [skipF] at h; omega
  | n + 1, a, h => by
    rw [skipF] at h ⊢
    split at h
    · rename_i q
      rw [if_pos q]
      exact skipF_end n (a + 1) (by omega)
    · rename_i q
      rw [if_neg q]
      simpa using q
/-- the words behind a place -/
noncomputable def wordsFrom (P N : Int → Bool) (e : Int) : Nat → Int → List (Int × Int)
  | 0, _ => []
  | n + 1, a => if skipF N (e - a).toNat a ≥ e then [] else (skipF N (e - a).toNat a, skipF P (e - skipF N (e - a).toNat a).toNat (skipF N (e - a).toNat a)) :: wordsFrom P N e n (skipF P (e - skipF N (e - a).toNat a).toNat (skipF N (e - a).toNat a))
section
variable (w : World) {b : Nat} {vh : VH} {V T : Nat} {cs : List Int} {p : Int} {κ : Int → Str}
theorem forward_by_ok (h : Doc vh V T cs p κ) (at' count : Int) (kinds : Str) : WC PP w (hd.heap_39 w.params) (b + 6) (.ref 253) [.ref V, .ref T, .int at', .int count, .str kinds] vh fun y vh' => y = avIB (fwd (isOf cs p κ kinds false) (isOf cs p κ kinds true) p (p + cs.length) at' count) ∧ vh' = vh := by
  have hv := h.v
  refine WK.call ?_
  refine' wk_fun (dx := []) (dv := []) (ps := ["view", "table", "at", "count", "kinds"]) ?ho ?hcd ?hbind ?hdv ?hnd ?hlen ?hloc ?hcell ?hco ?hgen ?hk ?hbody
  case ho => k_is
  case hcd => k_is
  case hbind => intro s vs X hl; obtain ⟨v0, v1, v2, v3, v4, rfl⟩ := lst5 (l := vs) hl; exact kp_binds X fun S => rfl
  case hdv => exact fun W => .nil
  case hnd => decide
  case hlen => rfl
  case hloc => decide
  case hcell => decide
  case hco => rfl
  case hgen => rfl
  case hk => rfl
  dsimp only [List.zip, List.zipWith, List.map, List.append_eq, List.append, List.nil_append, List.cons_append]
  generalize hP : isOf cs p κ kinds false = P
  generalize hN : isOf cs p κ kinds true = N
  generalize he : p + (cs.length : Int) = e
  refine wb_cons ?_
  refine ws_while (α := Int × Int) (fun a => [("view", some (.ref V)), ("table", some (.ref T)), ("at", some (.int a.1)), ("count", some (.int a.2)), ("kinds", some (.str kinds))]) (fun _ => vh) (fun a => (0 ≤ count → 0 ≤ a.2 ∧ fwdF P N e a.2.toNat a.1 = fwdF P N e count.toNat at') ∧ (count < 0 → a.1 = at' ∧ a.2 = count)) (fun a => a.2.toNat) (at', count) ⟨fun h => ⟨h, rfl⟩, fun _ => ⟨rfl, rfl⟩⟩ fl_refl rfl ?_
  rintro ⟨a, k⟩ ⟨ha1, ha2⟩
  dsimp only at ha1 ha2 ⊢
  walk_at "go"
  refine br_i (fun c1 => ?_) (fun c1 => ?_)
  · replace c1 := of_decide_eq_true c1
    have hc : 0 ≤ count := by
      apply Decidable.byContradiction; intro z
      have := (ha2 (by omega)).2; omega
    obtain ⟨q1, q2⟩ := ha1 hc
    rw [show k.toNat = (k - 1).toNat + 1 by omega, fwdF] at q2
    walk_at "go"
    refine we_callG (g_skip_forward w) (k_skip_forward w) (by rfl) (by rfl) (by rfl) ?_
    walk_at "go"
    refine WC.same (skip_forward6_ok w h _ _ kinds true) ?_
    walk_at "go"
    rw [hN, he]
    refine br_i (fun c2 => ?_) (fun c2 => ?_)
    · walk_at "go"
      refine .inr ⟨⟨_, rfl⟩, th_ret ⟨?_, rfl⟩⟩
      rw [if_pos (of_decide_eq_true c2)] at q2
      rw [fwd, if_pos hc, ← q2]
      show AV.tup [.int (p + cs.length), .bool false] = _
      rw [he]; rfl
    · walk_at "go"
      refine we_callG (g_skip_forward w) (k_skip_forward w) (by rfl) (by rfl) (by rfl) ?_
      walk_at "go"
      refine WC.same (skip_forward5_ok w h _ _ kinds) ?_
      walk_at "go"
      rw [hP, he]
      rw [if_neg (of_decide_eq_false c2)] at q2
      refine .inl ⟨rfl, (_, k - 1), ⟨fun _ => ⟨by show 0 ≤ k - 1; omega, q2⟩, fun z => absurd hc (by omega)⟩, by show (k - 1).toNat < k.toNat; omega, ?_, rfl⟩
      walk_at "fle"
  replace c1 := of_decide_eq_false c1
  walk_at "go"
  refine ws_while (α := Int × Int) (fun a => [("view", some (.ref V)), ("table", some (.ref T)), ("at", some (.int a.1)), ("count", some (.int a.2)), ("kinds", some (.str kinds))]) (fun _ => vh) (fun a => (0 ≤ count → a.2 = 0 ∧ (a.1, true) = fwdF P N e count.toNat at') ∧ (count < 0 → a.2 ≤ 0 ∧ fwdB P N p (-a.2).toNat a.1 = fwdB P N p (-count).toNat at')) (fun a => (-a.2).toNat) (a, k) ?_ fl_refl rfl ?_
  · refine ⟨fun hc => ?_, fun hc => ?_⟩
    · obtain ⟨q1, q2⟩ := ha1 hc
      have hk0 : k = 0 := by omega
      subst hk0
      exact ⟨rfl, q2⟩
    · obtain ⟨q1, q2⟩ := ha2 hc
      subst q1; subst q2
      exact ⟨by show k ≤ 0; omega, rfl⟩
  clear ha1 ha2 c1
  clear a k
  rintro ⟨a, k⟩ ⟨ha1, ha2⟩
  dsimp only at ha1 ha2 ⊢
  walk_at "go"
  refine br_i (fun c1 => ?_) (fun c1 => ?_)
  · replace c1 := of_decide_eq_true c1
    have hc : count < 0 := by
      apply Decidable.byContradiction; intro z
      have := (ha1 (by omega)).1; omega
    obtain ⟨q1, q2⟩ := ha2 hc
    rw [show (-k).toNat = (-(k + 1)).toNat + 1 by omega, fwdB] at q2
    walk_at "go"
    refine we_callG (g_skip_backward w) (k_skip_backward w) (by rfl) (by rfl) (by rfl) ?_
    walk_at "go"
    refine WC.same (skip_backward6_ok w h _ _ kinds true) ?_
    walk_at "go"
    rw [hN]
    refine br_i (fun c2 => ?_) (fun c2 => ?_)
    · walk_at "go"
      refine .inr ⟨⟨_, rfl⟩, th_ret ⟨?_, rfl⟩⟩
      rw [if_pos (of_decide_eq_true c2)] at q2
      rw [fwd, if_neg (by omega), ← q2]
      rfl
    · walk_at "go"
      refine we_callG (g_skip_backward w) (k_skip_backward w) (by rfl) (by rfl) (by rfl) ?_
      walk_at "go"
      refine WC.same (skip_backward5_ok w h _ _ kinds) ?_
      walk_at "go"
      rw [hP]
      rw [if_neg (of_decide_eq_false c2)] at q2
      refine .inl ⟨rfl, (_, k + 1), ⟨fun z => absurd hc (by omega), fun _ => ⟨by show k + 1 ≤ 0; omega, q2⟩⟩, by show (-(k + 1)).toNat < (-k).toNat; omega, ?_, rfl⟩
      walk_at "fle"
  replace c1 := of_decide_eq_false c1
  walk_at "go"
  refine ⟨?_, rfl⟩
  rw [fwd]
  by_cases hc : 0 ≤ count
  · obtain ⟨q1, q2⟩ := ha1 hc
    rw [if_pos hc, ← q2]; rfl
  · obtain ⟨q1, q2⟩ := ha2 (by omega)
    have hk0 : k = 0 := by omega
    subst hk0
    rw [if_neg hc, ← q2]; rfl
theorem forward_word_ok (h : Doc vh V T cs p κ) (at' count : Int) : WC PP w (hd.heap_39 w.params) (b + 7) (.ref 260) [.ref V, .ref T, .int at', .int count] vh fun y vh' => y = avIB (fwd (isOf cs p κ "w" false) (isOf cs p κ "w" true) p (p + cs.length) at' count) ∧ vh' = vh := by
  refine WK.call ?_
  refine' wk_fun (dx := []) (dv := []) (ps := ["view", "table", "at", "count"]) ?ho ?hcd ?hbind ?hdv ?hnd ?hlen ?hloc ?hcell ?hco ?hgen ?hk ?hbody
  case ho => k_is
  case hcd => k_is
  case hbind => intro s vs X hl; obtain ⟨v0, v1, v2, v3, rfl⟩ := lst4 (l := vs) hl; exact kp_binds X fun S => rfl
  case hdv => exact fun W => .nil
  case hnd => decide
  case hlen => rfl
  case hloc => decide
  case hcell => decide
  case hco => rfl
  case hgen => rfl
  case hk => rfl
  dsimp only [List.zip, List.zipWith, List.map, List.append_eq, List.append, List.nil_append, List.cons_append]
  walk_at "go"
  refine we_callG (g_forward_by w) (k_forward_by w) (by rfl) (by rfl) (by rfl) ?_
  walk_at "go"
  refine we_glob (g_WORD w) (by rfl) (by rfl) ?_
  walk_at "go"
  refine WC.same (forward_by_ok w h _ _ "w") ?_
  walk_at "go"
theorem forward_symbol_ok (h : Doc vh V T cs p κ) (at' count : Int) : WC PP w (hd.heap_39 w.params) (b + 7) (.ref 267) [.ref V, .ref T, .int at', .int count] vh fun y vh' => y = avIB (fwd (isOf cs p κ "w_" false) (isOf cs p κ "w_" true) p (p + cs.length) at' count) ∧ vh' = vh := by
  refine WK.call ?_
  refine' wk_fun (dx := []) (dv := []) (ps := ["view", "table", "at", "count"]) ?ho ?hcd ?hbind ?hdv ?hnd ?hlen ?hloc ?hcell ?hco ?hgen ?hk ?hbody
  case ho => k_is
  case hcd => k_is
  case hbind => intro s vs X hl; obtain ⟨v0, v1, v2, v3, rfl⟩ := lst4 (l := vs) hl; exact kp_binds X fun S => rfl
  case hdv => exact fun W => .nil
  case hnd => decide
  case hlen => rfl
  case hloc => decide
  case hcell => decide
  case hco => rfl
  case hgen => rfl
  case hk => rfl
  dsimp only [List.zip, List.zipWith, List.map, List.append_eq, List.append, List.nil_append, List.cons_append]
  walk_at "go"
  refine we_callG (g_forward_by w) (k_forward_by w) (by rfl) (by rfl) (by rfl) ?_
  walk_at "go"
  refine we_glob (g_WORD w) (by rfl) (by rfl) ?_
  refine we_glob (g_SYMBOL w) (by rfl) (by rfl) ?_
  refine ex_some (z := .str "w_") (by rfl) ?_
  walk_at "go"
  refine WC.same (forward_by_ok w h _ _ "w_") ?_
  walk_at "go"
theorem bounds_by_ok (h : Doc vh V T cs p κ) (at' : Int) (kinds : Str) : WC PP w (hd.heap_39 w.params) (b + 6) (.ref 274) [.ref V, .ref T, .int at', .str kinds] vh fun y vh' => y = avO (bnd (isOf cs p κ kinds false) p (p + cs.length) at') ∧ vh' = vh := by
  have hv := h.v
  refine WK.call ?_
  refine' wk_fun (dx := []) (dv := []) (ps := ["view", "table", "at", "kinds"]) ?ho ?hcd ?hbind ?hdv ?hnd ?hlen ?hloc ?hcell ?hco ?hgen ?hk ?hbody
  case ho => k_is
  case hcd => k_is
  case hbind => intro s vs X hl; obtain ⟨v0, v1, v2, v3, rfl⟩ := lst4 (l := vs) hl; exact kp_binds X fun S => rfl
  case hdv => exact fun W => .nil
  case hnd => decide
  case hlen => rfl
  case hloc => decide
  case hcell => decide
  case hco => rfl
  case hgen => rfl
  case hk => rfl
  dsimp only [List.zip, List.zipWith, List.map, List.append_eq, List.append, List.nil_append, List.cons_append]
  walk_at "go"
  refine we_callG (g_skip_backward w) (k_skip_backward w) (by rfl) (by rfl) (by rfl) ?_
  walk_at "go"
  refine WC.same (skip_backward5_ok w h _ _ kinds) ?_
  walk_at "go"
  refine we_callG (g_skip_forward w) (k_skip_forward w) (by rfl) (by rfl) (by rfl) ?_
  walk_at "go"
  refine WC.same (skip_forward5_ok w h _ _ kinds) ?_
  walk_at "go"
  refine br_i (fun c1 => ?_) (fun c1 => ?_)
  · walk_at "go"
    exact ⟨by rw [bnd, if_pos (of_decide_eq_true c1)]; rfl, rfl⟩
  · walk_at "go"
    exact ⟨by rw [bnd, if_neg (of_decide_eq_false c1)]; rfl, rfl⟩
theorem word_bounds_ok (h : Doc vh V T cs p κ) (at' : Int) : WC PP w (hd.heap_39 w.params) (b + 7) (.ref 281) [.ref V, .ref T, .int at'] vh fun y vh' => y = avO (bnd (isOf cs p κ "w" false) p (p + cs.length) at') ∧ vh' = vh := by
  refine WK.call ?_
  refine' wk_fun (dx := []) (dv := []) (ps := ["view", "table", "at"]) ?ho ?hcd ?hbind ?hdv ?hnd ?hlen ?hloc ?hcell ?hco ?hgen ?hk ?hbody
  case ho => k_is
  case hcd => k_is
  case hbind => intro s vs X hl; obtain ⟨v0, v1, v2, rfl⟩ := lst3 (l := vs) hl; exact kp_binds X fun S => rfl
  case hdv => exact fun W => .nil
  case hnd => decide
  case hlen => rfl
  case hloc => decide
  case hcell => decide
  case hco => rfl
  case hgen => rfl
  case hk => rfl
  dsimp only [List.zip, List.zipWith, List.map, List.append_eq, List.append, List.nil_append, List.cons_append]
  walk_at "go"
  refine we_callG (g_bounds_by w) (k_bounds_by w) (by rfl) (by rfl) (by rfl) ?_
  walk_at "go"
  refine we_glob (g_WORD w) (by rfl) (by rfl) ?_
  walk_at "go"
  refine WC.same (bounds_by_ok w h _ "w") ?_
  walk_at "go"
theorem symbol_bounds_ok (h : Doc vh V T cs p κ) (at' : Int) : WC PP w (hd.heap_39 w.params) (b + 7) (.ref 288) [.ref V, .ref T, .int at'] vh fun y vh' => y = avO (bnd (isOf cs p κ "w_" false) p (p + cs.length) at') ∧ vh' = vh := by
  refine WK.call ?_
  refine' wk_fun (dx := []) (dv := []) (ps := ["view", "table", "at"]) ?ho ?hcd ?hbind ?hdv ?hnd ?hlen ?hloc ?hcell ?hco ?hgen ?hk ?hbody
  case ho => k_is
  case hcd => k_is
  case hbind => intro s vs X hl; obtain ⟨v0, v1, v2, rfl⟩ := lst3 (l := vs) hl; exact kp_binds X fun S => rfl
  case hdv => exact fun W => .nil
  case hnd => decide
  case hlen => rfl
  case hloc => decide
  case hcell => decide
  case hco => rfl
  case hgen => rfl
  case hk => rfl
  dsimp only [List.zip, List.zipWith, List.map, List.append_eq, List.append, List.nil_append, List.cons_append]
  walk_at "go"
  refine we_callG (g_bounds_by w) (k_bounds_by w) (by rfl) (by rfl) (by rfl) ?_
  walk_at "go"
  refine we_glob (g_WORD w) (by rfl) (by rfl) ?_
  refine we_glob (g_SYMBOL w) (by rfl) (by rfl) ?_
  refine ex_some (z := .str "w_") (by rfl) ?_
  walk_at "go"
  refine WC.same (bounds_by_ok w h _ "w_") ?_
  walk_at "go"
end

theorem set_app {vh r : VH} {o o' : AO} : (vh ++ o :: r).set vh.length o' = vh ++ o' :: r := by simp
theorem get_app1 {vh r : VH} {o o' : AO} : (vh ++ o :: o' :: r)[vh.length + 1]? = some o' := by
  rw [List.getElem?_append_right (by omega)]; simp
theorem get_app2 {vh r : VH} {o o' o2 : AO} : (vh ++ o :: o' :: o2 :: r)[vh.length + 2]? = some o2 := by
  rw [List.getElem?_append_right (by omega)]; simp
theorem isOf_neg {cs : List Int} {p : Int} {κ : Int → Str} {kinds : Str} {q : Int} (h : within cs p q = true) (hn : isOf cs p κ kinds true q = false) : isOf cs p κ kinds false q = true := by
  rw [isOf, h] at *
  simpa using hn

section
variable (w : World) {b : Nat} {vh : VH} {V T : Nat} {cs : List Int} {p : Int} {κ : Int → Str}
theorem all_words_ok (h : Doc vh V T cs p κ) : WC PP w (hd.heap_39 w.params) (b + 6) (.ref 295) [.ref V, .ref T] vh fun y vh' => y = .ref vh.length ∧ vh' = vh ++ [.list ((wordsFrom (isOf cs p κ "w" false) (isOf cs p κ "w" true) (p + cs.length) cs.length p).map avII)] := by
  have hv := h.v
  have hlen := h.v.len
  refine WK.call ?_
  refine' wk_fun (dx := []) (dv := []) (ps := ["view", "table"]) ?ho ?hcd ?hbind ?hdv ?hnd ?hlen ?hloc ?hcell ?hco ?hgen ?hk ?hbody
  case ho => k_is
  case hcd => k_is
  case hbind => intro s vs X hl; obtain ⟨v0, v1, rfl⟩ := lst2 (l := vs) hl; exact kp_binds X fun S => rfl
  case hdv => exact fun W => .nil
  case hnd => decide
  case hlen => rfl
  case hloc => decide
  case hcell => decide
  case hco => rfl
  case hgen => rfl
  case hk => rfl
  dsimp only [List.zip, List.zipWith, List.map, List.append_eq, List.append, List.nil_append, List.cons_append]
  generalize hP : isOf cs p κ "w" false = P
  generalize hN : isOf cs p κ "w" true = N
  generalize he : p + (cs.length : Int) = e
  generalize hA : wordsFrom P N e cs.length p = all
  walk_at "go"
  refine ws_while (α := Int × List (Int × Int)) (fun a => [("view", some (.ref V)), ("table", some (.ref T)), ("found", some (.ref vh.length)), ("at", some (.int a.1))]) (fun a => vh ++ [.list (a.2.map avII)]) (fun a => p ≤ a.1 ∧ a.1 ≤ e ∧ a.2.length ≤ (a.1 - p).toNat ∧ ∃ n, (e - a.1).toNat ≤ n ∧ a.2 ++ wordsFrom P N e n a.1 = all) (fun a => (e - a.1).toNat) (p, []) ⟨Int.le_refl _, by show p ≤ e; omega, Nat.zero_le _, cs.length, by show (e - p).toNat ≤ _; omega, hA⟩ fl_refl rfl ?_
  rintro ⟨a, f⟩ ⟨ha1, ha2, ha3, n, ha4, ha5⟩
  dsimp only at ha1 ha2 ha3 ha4 ha5 ⊢
  have hd' : Doc (vh ++ [AO.list (f.map avII)]) V T cs p κ := h.left
  walk_at "go"
  refine we_callG (g_skip_forward w) (k_skip_forward w) (by rfl) (by rfl) (by rfl) ?_
  walk_at "go"
  refine we_glob (g_WORD w) (by rfl) (by rfl) ?_
  walk_at "go"
  refine WC.same (skip_forward6_ok w hd' _ _ "w" true) ?_
  walk_at "go"
  rw [hN, he]
  have hge := skipF_ge (P := N) (e - a).toNat a
  have hle := skipF_le (P := N) (e - a).toNat a
  have hend := skipF_end (P := N) (e - a).toNat a
  generalize hs : skipF N (e - a).toNat a = s at *
  refine br_i (fun c2 => ?_) (fun c2 => ?_)
  · walk_at "go"
    refine .inr ⟨⟨_, rfl⟩, th_ret ⟨rfl, ?_⟩⟩
    rw [← ha5]
    cases n with
    | zero => rw [wordsFrom, List.append_nil]
    | succ n => rw [wordsFrom, hs, if_pos (of_decide_eq_true c2), List.append_nil]
  · have c3 := of_decide_eq_false c2
    have hNs : N s = false := hend (by omega)
    have hPs : P s = true := by
      rw [← hP]; rw [← hN] at hNs
      exact isOf_neg (decide_eq_true (by omega)) hNs
    have hge2 : s + 1 ≤ skipF P (e - s).toNat s := by
      rw [show (e - s).toNat = (e - (s + 1)).toNat + 1 by omega, skipF, if_pos hPs]
      exact skipF_ge _ _
    have hle2 := skipF_le (P := P) (e - s).toNat s
    walk_at "go"
    refine we_callG (g_skip_forward w) (k_skip_forward w) (by rfl) (by rfl) (by rfl) ?_
    walk_at "go"
    refine we_glob (g_WORD w) (by rfl) (by rfl) ?_
    walk_at "go"
    refine WC.same (skip_forward5_ok w hd' _ _ "w") ?_
    walk_at "go"
    rw [hP, he]
    refine ⟨_, M_list get_last PySem.F.slot_list_append PySem.F.type_list_append, keep_builtin, ?_⟩
    walk_at "go"
    refine wc_of (C_append get_last (by rw [List.length_map]; omega)) ?_
    rw [set_last]
    walk_at "go"
    cases n with
    | zero => omega
    | succ n =>
      rw [wordsFrom, hs, if_neg c3] at ha5
      refine .inl ⟨rfl, (skipF P (e - s).toNat s, f ++ [(s, skipF P (e - s).toNat s)]), ⟨?_, ?_, ?_, n, ?_, ?_⟩, ?_, ?_, ?_⟩
      · show p ≤ skipF P (e - s).toNat s; omega
      · omega
      · rw [List.length_append, List.length_singleton]; omega
      · show (e - skipF P (e - s).toNat s).toNat ≤ n; omega
      · rw [← ha5, List.append_assoc]; rfl
      · show (e - skipF P (e - s).toNat s).toNat < (e - a).toNat; omega
      · walk_at "fle"
      · rw [List.map_append]; rfl
theorem row_new {l : Nat} (hl : vh[l]? = some (.list (cs.map .int))) (hz : cs.length ≤ 1000) (p : Int) : WC PP w (hd.heap_39 w.params) (b + 2) (.ref 334) [.ref l, .int p] vh fun y vh' => y = .ref (vh.length + 1) ∧ vh' = vh ++ [.ns [("codes", .ref (vh.length + 2)), ("place", .int p)], .inst 334 vh.length, .list (cs.map .int)] := by
  refine WK.call (wk_new (mk_row w) (mi_row w) (mf_row w) ?_)
  refine' wk_fun (dx := []) (dv := []) (ps := ["self", "codes", "place"]) ?ho ?hcd ?hbind ?hdv ?hnd ?hlen ?hloc ?hcell ?hco ?hgen ?hk ?hbody
  case ho => k_is
  case hcd => k_is
  case hbind => intro s vs X hl; obtain ⟨v0, v1, v2, rfl⟩ := lst3 (l := vs) hl; exact kp_binds X fun S => rfl
  case hdv => exact fun W => .nil
  case hnd => decide
  case hlen => rfl
  case hloc => decide
  case hcell => decide
  case hco => rfl
  case hgen => rfl
  case hk => rfl
  dsimp only [List.zip, List.zipWith, List.map, List.append_eq, List.append, List.nil_append, List.cons_append]
  walk_at "go"
  refine we_callG (g_list w) keep_type (by rfl) (by rfl) (by rfl) ?_
  walk_at "go"
  refine wc_of (C_list (get_left hl) (by rw [List.length_map]; omega)) ?_
  rw [List.append_assoc]
  dsimp only [List.cons_append, List.nil_append]
  walk_at "go"
  refine ⟨_, _, _, _, rfl, get_app1, get_last, s_codes w, by show 0 ≤ 900; omega, ?_⟩
  rw [set_app]
  walk_at "go"
  refine ⟨_, _, _, _, rfl, get_app1, get_last, s_place w, by show 1 ≤ 900; omega, ?_⟩
  rw [set_app]
  walk_at "go"
  rw [List.length_append]
  rfl
end

theorem strIn1 (c : Nat) (s : Str) : strIn ⟨#[c]⟩ s = decide (c ∈ s.cps.toList) := StrLaws.found_one s c
theorem strItems_mem {s : Str} {x : AV} (h : x ∈ strItems s) : ∃ c, c ∈ s.cps.toList ∧ x = .str ⟨#[c]⟩ := by
  obtain ⟨c, h1, h2⟩ := List.mem_map.mp h
  exact ⟨c, h1, h2.symm⟩
section
variable (w : World) {b : Nat} {vh : VH}
theorem syn_new (k f : Str) (m : AV) : WC PP w (hd.heap_39 w.params) (b + 2) (.ref 147) [.str k, m, .str f] vh fun y vh' => y = .ref (vh.length + 1) ∧ vh' = vh ++ [.ns [("kind", .str k), ("match", m), ("flags", .str f)], .inst 147 vh.length] := by
  refine WK.call (wk_new (mk_syn w) (mi_syn w) (mf_syn w) ?_)
  refine' wk_fun (dx := []) (dv := []) (ps := ["self", "kind", "match", "flags"]) ?ho ?hcd ?hbind ?hdv ?hnd ?hlen ?hloc ?hcell ?hco ?hgen ?hk ?hbody
  case ho => k_is
  case hcd => k_is
  case hbind => intro s vs X hl; obtain ⟨v0, v1, v2, v3, rfl⟩ := lst4 (l := vs) hl; exact kp_binds X fun S => rfl
  case hdv => exact fun W => .nil
  case hnd => decide
  case hlen => rfl
  case hloc => decide
  case hcell => decide
  case hco => rfl
  case hgen => rfl
  case hk => rfl
  dsimp only [List.zip, List.zipWith, List.map, List.append_eq, List.append, List.nil_append, List.cons_append]
  walk_at "go"
  refine ⟨_, _, _, _, rfl, get_app1, get_last, s_kind w, by show 0 ≤ 900; omega, ?_⟩
  rw [set_app]
  walk_at "go"
  refine ⟨_, _, _, _, rfl, get_app1, get_last, s_match w, by show 1 ≤ 900; omega, ?_⟩
  rw [set_app]
  walk_at "go"
  refine ⟨_, _, _, _, rfl, get_app1, get_last, s_flags w, by show 2 ≤ 900; omega, ?_⟩
  rw [set_app]
  walk_at "go"
  rfl
theorem flags_ok : WC PP w (hd.heap_39 w.params) (b + 1) (.ref 156) [.str ""] vh fun y vh' => y = .str "" ∧ ∃ e, vh' = vh ++ e := by
  refine WK.call ?_
  refine' wk_funC (cn := ["text"]) (co := [.cell (some (.str ""))]) (fm0 := []) (cl := [("text", vh.length)]) (dx := []) (dv := []) (ps := ["text"]) ?ho ?hcd ?hbind ?hdv ?hnd ?hlen ?hloc ?hcs ?hcn ?hck ?hco ?hgen ?hk ?hcl ?hfm ?hob ?hbody
  case ho => k_is
  case hcd => k_is
  case hbind => intro s vs X hl; obtain ⟨v0, rfl⟩ := lst1 (l := vs) hl; exact kp_binds X fun S => rfl
  case hdv => exact fun W => .nil
  case hnd => decide
  case hlen => rfl
  case hloc => decide
  case hcs => rfl
  case hcn => decide
  case hck => decide
  case hco => rfl
  case hgen => rfl
  case hk => rfl
  case hcl => rfl
  case hfm => rfl
  case hob => rfl

  walk_at "go"
  refine ⟨_, M_str PySem.F.slot_str_join PySem.F.type_str_join, keep_builtin, ?_⟩
  walk_at "go"
  refine we_comp (by rfl) (by intro _ _; rfl) ?_
  refine we_glob (g_FLAGS w) (by rfl) (by rfl) ?_
  refine ⟨_, _, iter_str (by decide +kernel), trivial, ?_⟩
  refine wcr_pure (fun _ => none) rfl (fun _ => trivial) (by decide +kernel) (fun x hx zs => ?_) ?_
  · obtain ⟨c, -, rfl⟩ := strItems_mem hx
    walk_at "go"
    rw [strIn1]
    exact br_no rfl rfl
  · walk_at "go"
    refine wc_of (C_join (ys := []) (get_last) (by decide) (by decide)) ?_
    walk_at "go"
    exact ⟨_, List.append_assoc _ _ _⟩
theorem read_ok (t : Str) (k : Nat) (m : AV) (h0 : (t == "") = false) (h1 : t.cps[0]? = some k) (h2 : ((⟨#[k]⟩ : Str) == "-") = false) (h3 : strIn ⟨#[k]⟩ " w_.()'\"\\/$<>@!|" = true)
    (h4 : t.length ≤ 2) (h5 : if t.length < 2 then m = .none else ∃ n, t.cps[1]? = some (n : Nat) ∧ m = .int n ∧ ((⟨#[n]⟩ : Str) == " ") = false)
    (h6 : ((slicePicked t (some (2, 0)) none none).filterMap (t.cps[·]?)).length ≤ sizeLine) (h7 : (if ((slicePicked t (some (2, 0)) none none).length == t.length) = true then t else ⟨((slicePicked t (some (2, 0)) none none).filterMap (t.cps[·]?)).toArray⟩) = "") :
    WC PP w (hd.heap_39 w.params) (b + 3) (.ref 161) [.str t] vh fun y vh' => ∃ e s, y = .ref s ∧ vh' = vh ++ e ∧ SAt vh' s ⟨#[k]⟩ := by
  refine WK.call ?_
  refine' wk_fun (dx := []) (dv := []) (ps := ["text"]) ?ho ?hcd ?hbind ?hdv ?hnd ?hlen ?hloc ?hcell ?hco ?hgen ?hk ?hbody
  case ho => k_is
  case hcd => k_is
  case hbind => intro s vs X hl; obtain ⟨v0, rfl⟩ := lst1 (l := vs) hl; exact kp_binds X fun S => rfl
  case hdv => exact fun W => .nil
  case hnd => decide
  case hlen => rfl
  case hloc => decide
  case hcell => decide
  case hco => rfl
  case hgen => rfl
  case hk => rfl
  dsimp only [List.zip, List.zipWith, List.map, List.append_eq, List.append, List.nil_append, List.cons_append]
  walk_at "go"
  refine br_no h0 ?_
  walk_at "go"
  refine ⟨_, .str (by decide) (by decide) h1, ?_⟩
  walk_at "go"
  refine br_no h2 ?_
  walk_at "go"
  refine ⟨_, .str (by decide) (by decide) h1, ?_⟩
  walk_at "go"
  by_cases c1 : t.length < 2
  · rw [if_pos c1] at h5
    subst h5
    refine br_yes (decide_eq_true (by omega)) ?_
    walk_at "go"
    refine we_sliceS ?_
    walk_at "go"
    refine ⟨_, _, _, rfl, rfl, h6, h7, ?_⟩
    walk_at "go"
    refine we_glob (g_KINDS w) (by rfl) (by rfl) ?_
    refine ex_some (z := false) ?_ ?_
    · show some (!strIn _ _) = _
      rw [h3]; rfl
    walk_at "go"
    refine we_comp (by rfl) (by intro _ _; rfl) ?_
    walk_at "go"
    refine ⟨_, _, iter_str (by decide +kernel), trivial, ?_⟩
    refine wcr_nil trivial ?_
    walk_at "go"
    refine wc_of (C_all (bs := []) get_last) ?_
    walk_at "go"
    refine we_callG (g_Syntax w) (k_Syntax w) (by rfl) (by rfl) (by rfl) ?_
    walk_at "go"
    refine we_callG (g_sorted_flags w) (k_sorted_flags w) (by rfl) (by rfl) (by rfl) ?_
    walk_at "go"
    refine WC.mono (flags_ok w) ?_
    rintro _ _ ⟨rfl, e, rfl⟩
    walk_at "go"
    refine WC.same' (syn_new w _ _ _) ?_
    walk_at "go"
    refine ⟨_, _, rfl, by rw [List.append_assoc, List.append_assoc, List.append_assoc], ⟨_, _, _, get_app1, get_last⟩⟩
  · rw [if_neg c1] at h5
    obtain ⟨n, h8, rfl, h9⟩ := h5
    refine br_no (decide_eq_false (by omega)) ?_
    walk_at "go"
    refine ⟨_, .str (by decide) (by decide) h8, ?_⟩
    walk_at "go"
    refine br_no h9 ?_
    walk_at "go"
    refine ⟨_, .str (by decide) (by decide) h8, ?_⟩
    walk_at "go"
    refine we_sliceS ?_
    walk_at "go"
    refine ⟨_, _, _, rfl, rfl, h6, h7, ?_⟩
    walk_at "go"
    refine we_glob (g_KINDS w) (by rfl) (by rfl) ?_
    refine ex_some (z := false) ?_ ?_
    · show some (!strIn _ _) = _
      rw [h3]; rfl
    walk_at "go"
    refine we_comp (by rfl) (by intro _ _; rfl) ?_
    walk_at "go"
    refine ⟨_, _, iter_str (by decide +kernel), trivial, ?_⟩
    refine wcr_nil trivial ?_
    walk_at "go"
    refine wc_of (C_all (bs := []) get_last) ?_
    walk_at "go"
    refine we_callG (g_Syntax w) (k_Syntax w) (by rfl) (by rfl) (by rfl) ?_
    walk_at "go"
    refine we_callG (g_sorted_flags w) (k_sorted_flags w) (by rfl) (by rfl) (by rfl) ?_
    walk_at "go"
    refine WC.mono (flags_ok w) ?_
    rintro _ _ ⟨rfl, e, rfl⟩
    walk_at "go"
    refine WC.same' (syn_new w _ _ _) ?_
    walk_at "go"
    refine ⟨_, _, rfl, by rw [List.append_assoc, List.append_assoc, List.append_assoc], ⟨_, _, _, get_app1, get_last⟩⟩
end

/-- what stands outside S is kept -/
structure Kp (S : Nat → Prop) (vh vh' : VH) : Prop where
  len : vh.length ≤ vh'.length
  get : ∀ i o, ¬ S i → vh[i]? = some o → vh'[i]? = some o
theorem Kp.refl {S : Nat → Prop} {vh : VH} : Kp S vh vh := ⟨Nat.le_refl _, fun _ _ _ h => h⟩
theorem Kp.trans {S : Nat → Prop} {v1 v2 v3 : VH} (h1 : Kp S v1 v2) (h2 : Kp S v2 v3) : Kp S v1 v3 := ⟨Nat.le_trans h1.len h2.len, fun i o n e => h2.get i o n (h1.get i o n e)⟩
theorem Kp.left {S : Nat → Prop} {vh e : VH} : Kp S vh (vh ++ e) := ⟨by simp, fun _ _ _ h => get_left h⟩
theorem Kp.set {S : Nat → Prop} {vh : VH} {i : Nat} {o : AO} (h : S i) : Kp S vh (vh.set i o) := ⟨by simp, fun j o' n e => by
  have hne : i ≠ j := by rintro rfl; exact n h
  rw [List.getElem?_set_ne hne]; exact e⟩
theorem Kp.mono {S S' : Nat → Prop} {vh vh' : VH} (h : Kp S vh vh') (hs : ∀ i, S i → S' i) : Kp S' vh vh' := ⟨h.len, fun i o n e => h.get i o (fun z => n (hs i z)) e⟩
theorem Kp.pre {vh vh' : VH} (h : Kp (fun i => vh.length ≤ i) vh vh') : ∃ e, vh' = vh ++ e := by
  refine ⟨vh'.drop vh.length, List.ext_getElem? fun i => ?_⟩
  by_cases hi : i < vh.length
  · rw [List.getElem?_append_left hi]
    have e1 := List.getElem?_eq_getElem hi
    rw [e1]
    exact h.get i _ (by omega) e1
  · rw [List.getElem?_append_right (by omega), List.getElem?_drop]
    congr 1
    omega
/-- a table that is being built: all of it lies from n on -/
structure TB (n N : Nat) (vh : VH) (T : Nat) (g : Int → Option Str) : Prop where
  out : ∃ d r kvs, n ≤ r ∧ kvs.length ≤ N ∧ vh[T]? = some (.inst 228 d) ∧ vh[d]? = some (.ns [("parent", .none), ("rows", .ref r)]) ∧ vh[r]? = some (.idict kvs) ∧ ∀ c k, g c = some k → ∃ s, intMapGet kvs c = some (.ref s) ∧ SAt vh s k
theorem TB.tab {n N : Nat} {vh : VH} {T : Nat} {g : Int → Option Str} (h : TB n N vh T g) : TAt vh T g := by
  obtain ⟨d, r, kvs, h0, h00, h1, h2, h3, h4⟩ := h
  exact ⟨d, r, kvs, h1, h2, h3, h4⟩
theorem get_setIdict (k : Int) (x : AV) (c : Int) (kvs : List (Int × AV)) : intMapGet (setIdict kvs k x) c = if c = k then some x else intMapGet kvs c := by
  unfold intMapGet setIdict
  by_cases hk : kvs.any (fun kv => kv.1 = k) = true
  · rw [if_pos hk]
    induction kvs with
    | nil => cases hk
    | cons kv r ih =>
      rw [List.map_cons, List.find?_cons, List.find?_cons]
      by_cases h1 : kv.1 = k
      · rw [if_pos h1]
        by_cases h2 : c = k
        · rw [if_pos h2, h1]; simp [h2]
        · have h3 : ¬ k = c := fun z => h2 z.symm
          rw [if_neg h2, h1]
          simp only [h3, decide_false]
          clear ih hk
          induction r with
          | nil => rfl
          | cons q r ih =>
            rw [List.map_cons, List.find?_cons, List.find?_cons]
            by_cases h4 : q.1 = k
            · rw [if_pos h4]
              simp only [h4, h3, decide_false]
              exact ih
            · rw [if_neg h4]
              by_cases h5 : q.1 = c
              · simp only [h5, decide_true]
              · simp only [h5, decide_false]
                exact ih
      · rw [if_neg h1]
        have hk' : r.any (fun kv => kv.1 = k) = true := by simpa [h1] using hk
        by_cases h5 : kv.1 = c
        · have : ¬ c = k := fun z => h1 (h5.trans z)
          simp only [h5, decide_true]
          rw [if_neg this]
        · simp only [h5, decide_false]
          exact ih hk'
  · rw [if_neg hk, List.find?_append]
    by_cases h2 : c = k
    · rw [if_pos h2]
      have : kvs.find? (fun kv => decide (kv.1 = c)) = none := by
        rw [List.find?_eq_none]
        intro q hq
        simp only [decide_eq_true_eq]
        intro z
        exact hk (List.any_eq_true.mpr ⟨q, hq, by simp [z, h2]⟩)
      rw [this]
      simp [h2]
    · rw [if_neg h2]
      have h3 : ¬ k = c := fun z => h2 z.symm
      simp [h3]
theorem len_setIdict (k : Int) (x : AV) (kvs : List (Int × AV)) : (setIdict kvs k x).length ≤ kvs.length + 1 := by
  unfold setIdict
  split <;> simp
theorem SAt.kp {S : Nat → Prop} {vh vh' : VH} {s : Nat} {k : Str} (h : SAt vh s k) (K : Kp S vh vh') (hs : ∀ i, S i → ∀ C d, vh[i]? ≠ some (.inst C d)) (hs2 : ∀ i, S i → ∀ d, vh[i]? ≠ some (.ns d)) : SAt vh' s k := by
  obtain ⟨d, m, f, h1, h2⟩ := h
  exact ⟨d, m, f, K.get _ _ (fun z => hs _ z _ _ h1) h1, K.get _ _ (fun z => hs2 _ z _ h2) h2⟩
noncomputable def updG (g : Int → Option Str) (t : Str) (k : Str) : Int → Option Str := fun c => if (t.cps.toList.any fun n => (n : Int) == c) = true then some k else g c

section
variable (w : World) {b : Nat} {vh : VH}
theorem tab_new : WC PP w (hd.heap_39 w.params) (b + 2) (.ref 228) [] vh fun y vh' => y = .ref (vh.length + 1) ∧ vh' = vh ++ [.ns [("parent", .none), ("rows", .ref (vh.length + 2))], .inst 228 vh.length, .idict []] := by
  refine WK.call (wk_new (mk_tab w) (mi_tab w) (mf_tab w) ?_)
  refine' wk_fun (dx := [.none]) (dv := [.none]) (ps := ["self", "parent"]) ?ho ?hcd ?hbind ?hdv ?hnd ?hlen ?hloc ?hcell ?hco ?hgen ?hk ?hbody
  case ho => k_is
  case hcd => k_is
  case hbind => intro s vs X hl; obtain ⟨v0, rfl⟩ := lst1 (l := vs) hl; exact kp_binds X fun S => rfl
  case hdv => exact fun W => .cons .none (.nil)
  case hnd => decide
  case hlen => rfl
  case hloc => decide
  case hcell => decide
  case hco => rfl
  case hgen => rfl
  case hk => rfl
  dsimp only [List.zip, List.zipWith, List.map, List.append_eq, List.append, List.nil_append, List.cons_append]
  walk_at "go"
  refine ⟨_, _, _, _, rfl, get_app1, get_last, s_parent w, by show 0 ≤ 900; omega, ?_⟩
  rw [set_app]
  walk_at "go"
  refine we_dict0 ?_
  rw [List.append_assoc]
  dsimp only [List.cons_append, List.nil_append]
  walk_at "go"
  refine ⟨_, _, _, _, rfl, get_app1, get_last, s_rows w, by show 1 ≤ 900; omega, ?_⟩
  rw [set_app]
  walk_at "go"
  rw [List.length_append]; rfl
theorem modify_ok {n N : Nat} {T : Nat} {g : Int → Option Str} (h : TB n N vh T g) (t d k : Str) (hN : N + t.cps.size ≤ 900000) (ha : t.cps.all (· < 128) = true)
    (hr : ∀ vh, WC PP w (hd.heap_39 w.params) (b + 3) (.ref 161) [.str d] vh fun y vh' => ∃ e s, y = .ref s ∧ vh' = vh ++ e ∧ SAt vh' s k) :
    WC PP w (hd.heap_39 w.params) (b + 4) (.ref 190) [.ref T, .str t, .str d] vh fun y vh' => y = .none ∧ Kp (fun i => n ≤ i) vh vh' ∧ TB n (N + t.cps.size) vh' T (updG g t k) := by
  obtain ⟨dd, r, kvs, h0, h00, h1, h2, h3, h4⟩ := h
  refine WK.call ?_
  refine' wk_fun (dx := []) (dv := []) (ps := ["self", "text", "description"]) ?ho ?hcd ?hbind ?hdv ?hnd ?hlen ?hloc ?hcell ?hco ?hgen ?hk ?hbody
  case ho => k_is
  case hcd => k_is
  case hbind => intro s vs X hl; obtain ⟨v0, v1, v2, rfl⟩ := lst3 (l := vs) hl; exact kp_binds X fun S => rfl
  case hdv => exact fun W => .nil
  case hnd => decide
  case hlen => rfl
  case hloc => decide
  case hcell => decide
  case hco => rfl
  case hgen => rfl
  case hk => rfl
  dsimp only [List.zip, List.zipWith, List.map, List.append_eq, List.append, List.nil_append, List.cons_append]
  walk_at "go"
  refine we_callG (g_read_syntax w) (k_read_syntax w) (by rfl) (by rfl) (by rfl) ?_
  walk_at "go"
  refine WC.mono (hr vh) ?_
  rintro _ _ ⟨e, s, rfl, rfl, hs⟩
  walk_at "go"
  refine ws_for (α := List (Int × AV)) (fun _ => [("self", some (.ref T)), ("text", some (.str t)), ("description", some (.str d)), ("syntax", some (.ref s))]) (fun l => (vh ++ e).set r (.idict l)) (fun xs l => ∃ done todo, t.cps.toList = done ++ todo ∧ xs = todo.map (fun c => AV.str ⟨#[c]⟩) ∧ l.length ≤ N + done.length ∧ ∀ c, intMapGet l c = if (done.any fun n => (n : Int) == c) = true then some (.ref s) else intMapGet kvs c) kvs (by intro _ _; rfl) ?_
  walk_at "go"
  have e0 : (vh ++ e).set r (.idict kvs) = vh ++ e := by
    refine List.ext_getElem? fun i => ?_
    rw [List.getElem?_set]
    by_cases hi : r = i
    · subst hi
      rw [if_pos rfl, if_pos (List.getElem?_eq_some_iff.mp (get_left (e := e) h3)).1]
      exact (get_left h3).symm
    · rw [if_neg hi]
  have hrT : r ≠ T := fun z => by rw [z, h1] at h3; cases h3
  have hrd : r ≠ dd := fun z => by rw [z, h2] at h3; cases h3
  refine ⟨_, _, iter_str ha, ⟨[], t.cps.toList, rfl, rfl, by omega, fun c => rfl⟩, fl_refl, e0, fun _ _ _ => trivial, ?_, ?_⟩
  · rintro l ⟨done, todo, q1, q2, q3, q4⟩
    have : todo = [] := by cases todo with
      | nil => rfl
      | cons _ _ => cases q2
    subst this
    rw [List.append_nil] at q1
    subst q1
    walk_at "go"
    have hr2 : (vh ++ e)[r]? = some (.idict kvs) := get_left h3
    have K : Kp (fun i => i = r) (vh ++ e) ((vh ++ e).set r (.idict l)) := Kp.set rfl
    refine ⟨(Kp.left.trans (Kp.set h0)), ⟨dd, r, l, h0, by rw [← Array.length_toList]; exact q3, ?_, ?_, get_hit hr2, ?_⟩⟩
    · exact get_ne hrT (get_left h1)
    · exact get_ne hrd (get_left h2)
    · intro c k' hc
      rw [updG] at hc
      rw [q4]
      have keep : ∀ {s' k'}, SAt (vh ++ e) s' k' → SAt ((vh ++ e).set r (.idict l)) s' k' := fun {s' k'} x => x.kp K (fun i hi C d' z => by subst hi; rw [hr2] at z; cases z) (fun i hi d' z => by subst hi; rw [hr2] at z; cases z)
      split at hc
      · rename_i q
        cases hc
        rw [if_pos q]
        exact ⟨s, rfl, keep hs⟩
      · rename_i q
        rw [if_neg q]
        obtain ⟨s', h5, h6⟩ := h4 c k' hc
        exact ⟨s', h5, keep h6.left⟩
  · rintro y ys l ⟨done, todo, q1, q2, q3, q4⟩
    cases todo with
    | nil => cases q2
    | cons ch todo =>
      cases q2
      refine wa_name (by rfl) (by rfl) ?_
      walk_at "go"
      refine ex_has (get_ne hrT (get_left h1)) (get_ne hrd (get_left h2)) (a_rows w) (by walk_at "look") rfl ?_
      walk_at "go"
      refine ⟨_, _, _, rfl, rfl, get_hit (get_left h3), ?_, ?_⟩
      · have : t.cps.size = done.length + (todo.length + 1) := by rw [← Array.length_toList, q1, List.length_append]; rfl
        omega
      rw [List.set_set]
      walk_at "go"
      refine .inl ⟨rfl, setIdict l ch (.ref s), ⟨done ++ [ch], todo, by rw [q1, List.append_assoc]; rfl, rfl, ?_, fun c => ?_⟩, ?_, rfl⟩
      · have := len_setIdict ch (.ref s) l
        rw [List.length_append, List.length_singleton]; omega
      · rw [get_setIdict, List.any_append, q4]
        by_cases hc : c = (ch : Int)
        · rw [if_pos hc, if_pos (by simp [hc])]
        · have hc' : ((ch : Int) == c) = false := beq_eq_false_iff_ne.mpr fun z => hc z.symm
          rw [if_neg hc]
          simp only [List.any_cons, List.any_nil, hc', Bool.or_false]
      · walk_at "fle"
end

noncomputable def stdG : Int → Option Str := updG (updG (updG (updG (updG (updG (updG (updG (updG (updG (updG (updG (fun _ => none) "abcdefghijklmnopqrstuvwxyzABCDEFGHIJKLMNOPQRSTUVWXYZ0123456789$%" ⟨#[119]⟩) " \t\n\x0d\x0c" ⟨#[32]⟩) "_-+*/&|<>=" ⟨#[95]⟩) ".,;:?!#@~^'`" ⟨#[46]⟩) "(" ⟨#[40]⟩) ")" ⟨#[41]⟩) "[" ⟨#[40]⟩) "]" ⟨#[41]⟩) "{" ⟨#[40]⟩) "}" ⟨#[41]⟩) "\"" ⟨#[34]⟩) "\\" ⟨#[92]⟩
section
variable (w : World) {b : Nat} {vh : VH}
theorem letters_ok : WC PP w (hd.heap_39 w.params) (b + 1) (.ref 239) [] vh fun y vh' => y = .str "abcdefghijklmnopqrstuvwxyzABCDEFGHIJKLMNOPQRSTUVWXYZ0123456789" ∧ vh' = vh := by
  refine WK.call ?_
  refine' wk_fun (dx := []) (dv := []) (ps := []) ?ho ?hcd ?hbind ?hdv ?hnd ?hlen ?hloc ?hcell ?hco ?hgen ?hk ?hbody
  case ho => k_is
  case hcd => k_is
  case hbind => intro s vs X hl; cases lst0 (l := vs) hl; exact kp_binds X fun S => rfl
  case hdv => exact fun W => .nil
  case hnd => decide
  case hlen => rfl
  case hloc => decide
  case hcell => decide
  case hco => rfl
  case hgen => rfl
  case hk => rfl
  dsimp only [List.zip, List.zipWith, List.map, List.append_eq, List.append, List.nil_append, List.cons_append]
  walk_at "go"
theorem table_ok : WC PP w (hd.heap_39 w.params) (b + 5) (.ref 246) [] vh fun y vh' => ∃ T e, y = .ref T ∧ vh' = vh ++ e ∧ TAt vh' T stdG := by
  refine WK.call ?_
  refine' wk_fun (dx := []) (dv := []) (ps := []) ?ho ?hcd ?hbind ?hdv ?hnd ?hlen ?hloc ?hcell ?hco ?hgen ?hk ?hbody
  case ho => k_is
  case hcd => k_is
  case hbind => intro s vs X hl; cases lst0 (l := vs) hl; exact kp_binds X fun S => rfl
  case hdv => exact fun W => .nil
  case hnd => decide
  case hlen => rfl
  case hloc => decide
  case hcell => decide
  case hco => rfl
  case hgen => rfl
  case hk => rfl
  dsimp only [List.zip, List.zipWith, List.map, List.append_eq, List.append, List.nil_append, List.cons_append]
  walk_at "go"
  refine we_callG (g_SyntaxTable w) (k_SyntaxTable w) (by rfl) (by rfl) (by rfl) ?_
  walk_at "go"
  refine WC.same' (tab_new w) ?_
  have hT0 : TB vh.length 0 (vh ++ [.ns [("parent", .none), ("rows", .ref (vh.length + 2))], .inst 228 vh.length, .idict []]) (vh.length + 1) (fun _ => none) := ⟨vh.length, vh.length + 2, [], by omega, Nat.le_refl _, get_app1, get_last, get_app2, fun c k h => by cases h⟩
  walk_at "go"
  refine ⟨_, TAt.meth w hT0.tab (m_modify_all w) (by decide) (by decide), k_modify_all w, ?_⟩
  walk_at "go"
  refine we_callG (g_letters w) (k_letters w) (by rfl) (by rfl) (by rfl) ?_
  walk_at "go"
  refine WC.same (letters_ok w) ?_
  walk_at "go"
  refine WC.mono (modify_ok w hT0 "abcdefghijklmnopqrstuvwxyzABCDEFGHIJKLMNOPQRSTUVWXYZ0123456789$%" "w" ⟨#[119]⟩ (by decide +kernel) (by decide +kernel) (fun vh => read_ok w "w" 119 .none (by decide +kernel) (by decide +kernel) (by decide +kernel) (by decide +kernel) (by decide +kernel) (by rw [if_pos (by decide +kernel)]) (by decide +kernel) (by decide +kernel))) ?_
  rintro _ v1 ⟨rfl, hK1, hT1⟩
  walk_at "go"
  refine ⟨_, TAt.meth w hT1.tab (m_modify_all w) (by decide) (by decide), k_modify_all w, ?_⟩
  walk_at "go"
  refine WC.mono (modify_ok w hT1 " \t\n\x0d\x0c" " " ⟨#[32]⟩ (by decide +kernel) (by decide +kernel) (fun vh => read_ok w " " 32 .none (by decide +kernel) (by decide +kernel) (by decide +kernel) (by decide +kernel) (by decide +kernel) (by rw [if_pos (by decide +kernel)]) (by decide +kernel) (by decide +kernel))) ?_
  rintro _ v2 ⟨rfl, hK2, hT2⟩
  walk_at "go"
  refine ⟨_, TAt.meth w hT2.tab (m_modify_all w) (by decide) (by decide), k_modify_all w, ?_⟩
  walk_at "go"
  refine WC.mono (modify_ok w hT2 "_-+*/&|<>=" "_" ⟨#[95]⟩ (by decide +kernel) (by decide +kernel) (fun vh => read_ok w "_" 95 .none (by decide +kernel) (by decide +kernel) (by decide +kernel) (by decide +kernel) (by decide +kernel) (by rw [if_pos (by decide +kernel)]) (by decide +kernel) (by decide +kernel))) ?_
  rintro _ v3 ⟨rfl, hK3, hT3⟩
  walk_at "go"
  refine ⟨_, TAt.meth w hT3.tab (m_modify_all w) (by decide) (by decide), k_modify_all w, ?_⟩
  walk_at "go"
  refine WC.mono (modify_ok w hT3 ".,;:?!#@~^'`" "." ⟨#[46]⟩ (by decide +kernel) (by decide +kernel) (fun vh => read_ok w "." 46 .none (by decide +kernel) (by decide +kernel) (by decide +kernel) (by decide +kernel) (by decide +kernel) (by rw [if_pos (by decide +kernel)]) (by decide +kernel) (by decide +kernel))) ?_
  rintro _ v4 ⟨rfl, hK4, hT4⟩
  walk_at "go"
  refine ws_forU (by intro _ _; rfl) ?_
  walk_at "go"
  refine ⟨_, _, iter_tup, ?_⟩
  refine wf_cons trivial ?_
  walk_at "go"
  refine ⟨_, TAt.meth w hT4.tab (m_modify_all w) (by decide) (by decide), k_modify_all w, ?_⟩
  walk_at "go"
  refine WC.mono (modify_ok w hT4 "(" "()" ⟨#[40]⟩ (by decide +kernel) (by decide +kernel) (fun vh => read_ok w "()" 40 (.int 41) (by decide +kernel) (by decide +kernel) (by decide +kernel) (by decide +kernel) (by decide +kernel) (by rw [if_neg (by decide +kernel)]; exact ⟨41, by decide +kernel, rfl, by decide +kernel⟩) (by decide +kernel) (by decide +kernel))) ?_
  rintro _ v5 ⟨rfl, hK5, hT5⟩
  walk_at "go"
  refine ⟨_, TAt.meth w hT5.tab (m_modify_all w) (by decide) (by decide), k_modify_all w, ?_⟩
  walk_at "go"
  refine WC.mono (modify_ok w hT5 ")" ")(" ⟨#[41]⟩ (by decide +kernel) (by decide +kernel) (fun vh => read_ok w ")(" 41 (.int 40) (by decide +kernel) (by decide +kernel) (by decide +kernel) (by decide +kernel) (by decide +kernel) (by rw [if_neg (by decide +kernel)]; exact ⟨40, by decide +kernel, rfl, by decide +kernel⟩) (by decide +kernel) (by decide +kernel))) ?_
  rintro _ v6 ⟨rfl, hK6, hT6⟩
  walk_at "go"
  refine wf_cons trivial ?_
  walk_at "go"
  refine ⟨_, TAt.meth w hT6.tab (m_modify_all w) (by decide) (by decide), k_modify_all w, ?_⟩
  walk_at "go"
  refine WC.mono (modify_ok w hT6 "[" "(]" ⟨#[40]⟩ (by decide +kernel) (by decide +kernel) (fun vh => read_ok w "(]" 40 (.int 93) (by decide +kernel) (by decide +kernel) (by decide +kernel) (by decide +kernel) (by decide +kernel) (by rw [if_neg (by decide +kernel)]; exact ⟨93, by decide +kernel, rfl, by decide +kernel⟩) (by decide +kernel) (by decide +kernel))) ?_
  rintro _ v7 ⟨rfl, hK7, hT7⟩
  walk_at "go"
  refine ⟨_, TAt.meth w hT7.tab (m_modify_all w) (by decide) (by decide), k_modify_all w, ?_⟩
  walk_at "go"
  refine WC.mono (modify_ok w hT7 "]" ")[" ⟨#[41]⟩ (by decide +kernel) (by decide +kernel) (fun vh => read_ok w ")[" 41 (.int 91) (by decide +kernel) (by decide +kernel) (by decide +kernel) (by decide +kernel) (by decide +kernel) (by rw [if_neg (by decide +kernel)]; exact ⟨91, by decide +kernel, rfl, by decide +kernel⟩) (by decide +kernel) (by decide +kernel))) ?_
  rintro _ v8 ⟨rfl, hK8, hT8⟩
  walk_at "go"
  refine wf_cons trivial ?_
  walk_at "go"
  refine ⟨_, TAt.meth w hT8.tab (m_modify_all w) (by decide) (by decide), k_modify_all w, ?_⟩
  walk_at "go"
  refine WC.mono (modify_ok w hT8 "{" "(}" ⟨#[40]⟩ (by decide +kernel) (by decide +kernel) (fun vh => read_ok w "(}" 40 (.int 125) (by decide +kernel) (by decide +kernel) (by decide +kernel) (by decide +kernel) (by decide +kernel) (by rw [if_neg (by decide +kernel)]; exact ⟨125, by decide +kernel, rfl, by decide +kernel⟩) (by decide +kernel) (by decide +kernel))) ?_
  rintro _ v9 ⟨rfl, hK9, hT9⟩
  walk_at "go"
  refine ⟨_, TAt.meth w hT9.tab (m_modify_all w) (by decide) (by decide), k_modify_all w, ?_⟩
  walk_at "go"
  refine WC.mono (modify_ok w hT9 "}" "){" ⟨#[41]⟩ (by decide +kernel) (by decide +kernel) (fun vh => read_ok w "){" 41 (.int 123) (by decide +kernel) (by decide +kernel) (by decide +kernel) (by decide +kernel) (by decide +kernel) (by rw [if_neg (by decide +kernel)]; exact ⟨123, by decide +kernel, rfl, by decide +kernel⟩) (by decide +kernel) (by decide +kernel))) ?_
  rintro _ v10 ⟨rfl, hK10, hT10⟩
  walk_at "go"
  refine wf_nil trivial ?_
  walk_at "go"
  refine ⟨_, TAt.meth w hT10.tab (m_modify_all w) (by decide) (by decide), k_modify_all w, ?_⟩
  walk_at "go"
  refine WC.mono (modify_ok w hT10 "\"" "\"" ⟨#[34]⟩ (by decide +kernel) (by decide +kernel) (fun vh => read_ok w "\"" 34 .none (by decide +kernel) (by decide +kernel) (by decide +kernel) (by decide +kernel) (by decide +kernel) (by rw [if_pos (by decide +kernel)]) (by decide +kernel) (by decide +kernel))) ?_
  rintro _ v11 ⟨rfl, hK11, hT11⟩
  walk_at "go"
  refine ⟨_, TAt.meth w hT11.tab (m_modify_all w) (by decide) (by decide), k_modify_all w, ?_⟩
  walk_at "go"
  refine WC.mono (modify_ok w hT11 "\\" "\\" ⟨#[92]⟩ (by decide +kernel) (by decide +kernel) (fun vh => read_ok w "\\" 92 .none (by decide +kernel) (by decide +kernel) (by decide +kernel) (by decide +kernel) (by decide +kernel) (by rw [if_pos (by decide +kernel)]) (by decide +kernel) (by decide +kernel))) ?_
  rintro _ v12 ⟨rfl, hK12, hT12⟩
  walk_at "go"
  have hK := Kp.trans (Kp.left (S := fun i => vh.length ≤ i) (vh := vh)) ((((((((((((hK1).trans hK2).trans hK3).trans hK4).trans hK5).trans hK6).trans hK7).trans hK8).trans hK9).trans hK10).trans hK11).trans hK12)
  obtain ⟨e, he⟩ := hK.pre
  exact ⟨_, e, rfl, he, hT12.tab⟩
end

noncomputable def cI (cs : List Int) (k : Int) : Int := cs.getD k.toNat 0
theorem cI_get {cs : List Int} {k : Int} (h0 : 0 ≤ k) (h : k < cs.length) : (cs.map AV.int)[k.toNat]? = some (.int (cI cs k)) := by
  have h5 : k.toNat < cs.length := by omega
  rw [List.getElem?_map, cI, List.getD_eq_getElem?_getD, List.getElem?_eq_getElem h5]; rfl
noncomputable def cos1 (cs : List Int) (a : Int) : Int := if cI cs a = 92 ∧ a + 1 < cs.length then a + 1 else a
noncomputable def cos2 (cs : List Int) (a : Int) : Int × Int :=
  if a + 2 < cs.length ∧ cI cs (a + 1) = 45 then (if cI cs (a + 2) = 92 ∧ a + 3 < cs.length then (cI cs (a + 3), a + 3) else (cI cs (a + 2), a + 2)) else (cI cs a, a)
noncomputable def cosRun (cs : List Int) : Nat → Int → List (Int × Int)
  | 0, _ => []
  | n + 1, a => if a < cs.length then (cI cs (cos1 cs a), (cos2 cs (cos1 cs a)).1) :: cosRun cs n ((cos2 cs (cos1 cs a)).2 + 1) else []
noncomputable def inR (rs : List (Int × Int)) (c : Int) : Bool := rs.any fun r => decide (r.1 ≤ c ∧ c ≤ r.2)
noncomputable def szR (rs : List (Int × Int)) : Nat := (rs.map fun r => (r.2 + 1 - r.1).toNat).sum
theorem cos1_in {cs : List Int} {a : Int} (h0 : 0 ≤ a) (h : a < cs.length) : a ≤ cos1 cs a ∧ cos1 cs a < cs.length := by
  unfold cos1; split <;> omega
theorem cos2_in {cs : List Int} {a : Int} (h0 : 0 ≤ a) (h : a < cs.length) : a ≤ (cos2 cs a).2 ∧ (cos2 cs a).2 < cs.length := by
  unfold cos2
  split
  · split <;> (dsimp only; omega)
  · dsimp only; omega
theorem rngItems_len (n : Nat) (lo : Int) : (rngItems n lo).length = n := by
  induction n generalizing lo with
  | zero => rfl
  | succ n ih => rw [rngItems, List.length_cons, ih]
theorem sub_cs {v : VH} {L : Nat} {cs : List Int} {k : Int} (hl : v[L]? = some (.list (cs.map .int))) (hlen : cs.length ≤ 1000) (h0 : 0 ≤ k) (h1 : k < cs.length) : SubIs v (.ref L) (.int k) (.int (cI cs k)) := .list hl h0 (by omega) (cI_get h0 h1)
section
variable (w : World) {b : Nat} {vh : VH}
set_option maxHeartbeats 40000000 in
theorem codes_of_set_ok {L : Nat} {cs : List Int} (hL : vh[L]? = some (.list (cs.map .int))) (hlen : cs.length ≤ 1000) {neg : Bool} (hneg : decide (cs.take 1 = [94]) = neg) {rs : List (Int × Int)} (hrs : cosRun cs cs.length (if neg = true then 1 else 0) = rs)
    (hsz : szR rs ≤ 900000) (hsm : ∀ r ∈ rs, Builtin.Range.small r.1 (r.2 + 1) 1 = true) :
    WC PP w (hd.heap_39 w.params) (b + 1) (.ref 82) [.ref L] vh fun y vh' => ∃ D kvs e, y = .tup [.ref D, .bool neg] ∧ vh' = vh ++ e ∧ vh'[D]? = some (.idict kvs) ∧ ∀ c, (intMapGet kvs c).isSome = inR rs c := by
  refine WK.call ?_
  refine' wk_fun (dx := []) (dv := []) (ps := ["codes"]) ?ho ?hcd ?hbind ?hdv ?hnd ?hlen ?hloc ?hcell ?hco ?hgen ?hk ?hbody
  case ho => k_is
  case hcd => k_is
  case hbind => intro s vs X hl; obtain ⟨v0, rfl⟩ := lst1 (l := vs) hl; exact kp_binds X fun S => rfl
  case hdv => exact fun W => .nil
  case hnd => decide
  case hlen => rfl
  case hloc => decide
  case hcell => decide
  case hco => rfl
  case hgen => rfl
  case hk => rfl
  dsimp only [List.zip, List.zipWith, List.map, List.append_eq, List.append, List.nil_append, List.cons_append]
  walk_at "go"
  refine we_sliceL ?_
  walk_at "go"
  refine ⟨L, cs.map .int, none, some 1, none, rfl, hL, rfl, rfl, rfl, by decide, by rw [List.length_map]; omega, ?_⟩
  rw [pick_take 1 (by decide), ← List.map_take]
  walk_at "go"
  refine ex_some (z := neg) ?_ ?_
  · show cmpEq _ _ _ = _
    exact (cmp_ints (xs := cs.take 1) (ys := [94]) (get_left get_last) get_last).trans (congrArg some hneg)
  walk_at "go"
  generalize hv1 : vh ++ [AO.list (List.map AV.int (List.take (Int.toNat 1) cs))] ++ [AO.list [AV.int 94]] = v1
  have hp1 : ∃ e1, v1 = vh ++ e1 := ⟨_, by rw [← hv1, List.append_assoc]⟩
  have hL1 : v1[L]? = some (.list (cs.map .int)) := by rw [← hv1]; exact get_left (get_left hL)
  clear hv1
  refine ws_tupS ["found", "at"] (by rfl) (by rintro ⟨⟩ rfl; rfl) ?_
  walk_at "go"
  refine we_dict0 ?_
  refine wl_cons (by rfl) ?_
  refine we_ifv (.int (if neg = true then 1 else 0)) ?_
  walk_at "go"
  refine ⟨⟨fun e => ?_, fun e => ?_⟩, ?_⟩
  · walk_at "go"
    exact ⟨by rw [e]; rfl, rfl⟩
  · walk_at "go"
    exact ⟨by rw [e]; rfl, rfl⟩
  walk_at "go"
  refine ⟨_, rfl, rfl, ?_⟩
  walk_at "go"
  have ha0 : (0 : Int) ≤ if neg = true then 1 else 0 := by split <;> decide
  generalize (if neg = true then (1 : Int) else 0) = a0 at hrs ha0 ⊢
  have hD : ∀ l : List (Int × AV), (v1 ++ [AO.idict l])[L]? = some (.list (cs.map .int)) := fun l => get_left hL1
  have hmap : (cs.map AV.int).length = cs.length := List.length_map ..
  refine ws_while (α := Int × List (Int × AV)) (fun a => [("codes", some (.ref L)), ("is_negated", some (.bool neg)), ("found", some (.ref v1.length)), ("at", some (.int a.1))]) (fun a => v1 ++ [.idict a.2]) (fun a => 0 ≤ a.1 ∧ ∃ n done, ((cs.length : Int) - a.1).toNat ≤ n ∧ done ++ cosRun cs n a.1 = rs ∧ a.2.length ≤ szR done ∧ ∀ c, (intMapGet a.2 c).isSome = inR done c) (fun a => ((cs.length : Int) - a.1).toNat) (a0, []) ⟨ha0, cs.length, [], by show ((cs.length : Int) - a0).toNat ≤ _; omega, hrs, Nat.le_refl _, fun c => rfl⟩ (by walk_at "fle") rfl ?_
  rintro ⟨a, l⟩ ⟨h0, n, done, hn, hd', hl, hg⟩
  dsimp only at h0 hn hd' hl hg ⊢
  have hDl := hD l
  walk_at "go"
  rw [hmap]
  refine br_i (fun c1 => ?_) (fun c1 => ?_)
  · have c1 := of_decide_eq_true c1
    cases n with
    | zero => omega
    | succ n =>
    rw [cosRun, if_pos c1] at hd'
    obtain ⟨k1, k2⟩ := cos1_in (cs := cs) h0 c1
    refine wb_cut (α := Unit) (fun _ => [("codes", some (.ref L)), ("is_negated", some (.bool neg)), ("found", some (.ref v1.length)), ("at", some (.int (cos1 cs a)))]) (fun _ => v1 ++ [.idict l]) (fun _ => True) ?_ fun _ _ => ?_
    · walk_at "go"
      refine ⟨_, sub_cs hDl hlen h0 c1, ?_⟩
      walk_at "go"
      refine br_i (fun q1 => ?_) (fun q1 => ?_)
      · walk_at "go"
        rw [hmap]
        refine br_i (fun q2 => ?_) (fun q2 => ?_)
        · walk_at "go"
          refine ⟨(), trivial, ?_, rfl⟩
          rw [cos1, if_pos ⟨eq_of_beq q1, of_decide_eq_true q2⟩]
          walk_at "fle"
        · walk_at "go"
          refine ⟨(), trivial, ?_, rfl⟩
          rw [cos1, if_neg (fun z => of_decide_eq_false q2 z.2)]
          walk_at "fle"
      · walk_at "go"
        refine ⟨(), trivial, ?_, rfl⟩
        rw [cos1, if_neg (fun z => by rw [z.1] at q1; cases q1)]
        walk_at "fle"
    generalize hA : cos1 cs a = A at *
    have hA0 : 0 ≤ A := by omega
    obtain ⟨k3, k4⟩ := cos2_in (cs := cs) hA0 k2
    refine wb_cons (ws_tupS ["first", "last"] (by rfl) (by rintro ⟨⟩ rfl; rfl) ?_)
    walk_at "go"
    refine ⟨_, sub_cs hDl hlen hA0 k2, ?_⟩
    walk_at "go"
    refine ⟨_, sub_cs hDl hlen hA0 k2, ?_⟩
    walk_at "go"
    refine ⟨_, rfl, rfl, ?_⟩
    refine wn_name (by rfl) (by rfl) (set_step (by walk_at "setfm") ?_)
    refine wn_name (by rfl) (by rfl) (set_step (by walk_at "setfm") ?_)
    refine wn_nil (th_next ?_)
    refine wb_cut (α := Unit) (fun _ => [("codes", some (.ref L)), ("is_negated", some (.bool neg)), ("found", some (.ref v1.length)), ("at", some (.int (cos2 cs A).2)), ("last", some (.int (cos2 cs A).1)), ("first", some (.int (cI cs A)))]) (fun _ => v1 ++ [.idict l]) (fun _ => True) ?_ fun _ _ => ?_
    · walk_at "go"
      rw [hmap]
      refine br_i (fun q1 => ?_) (fun q1 => ?_)
      · have q1 := of_decide_eq_true q1
        walk_at "go"
        refine ⟨_, sub_cs hDl hlen (by omega) (by omega), ?_⟩
        walk_at "go"
        refine br_i (fun q2 => ?_) (fun q2 => ?_)
        · have q2 := eq_of_beq q2
          walk_at "go"
          refine ⟨_, sub_cs hDl hlen (by omega) (by omega), ?_⟩
          walk_at "go"
          refine br_i (fun q3 => ?_) (fun q3 => ?_)
          · have q3 := eq_of_beq q3
            walk_at "go"
            rw [hmap]
            refine br_i (fun q4 => ?_) (fun q4 => ?_)
            · have q4 := of_decide_eq_true q4
              walk_at "go"
              refine ⟨_, sub_cs hDl hlen (by omega) (by omega), ?_⟩
              walk_at "go"
              refine ⟨(), trivial, ?_, rfl⟩
              rw [cos2, if_pos ⟨q1, q2⟩, if_pos ⟨q3, q4⟩]
              walk_at "fle"
            · have q4 := of_decide_eq_false q4
              walk_at "go"
              refine ⟨_, sub_cs hDl hlen (by omega) (by omega), ?_⟩
              walk_at "go"
              refine ⟨(), trivial, ?_, rfl⟩
              rw [cos2, if_pos ⟨q1, q2⟩, if_neg (fun z => q4 z.2)]
              walk_at "fle"
          · have q3 : ¬ cI cs (A + 2) = 92 := by simpa using q3
            walk_at "go"
            refine ⟨_, sub_cs hDl hlen (by omega) (by omega), ?_⟩
            walk_at "go"
            refine ⟨(), trivial, ?_, rfl⟩
            rw [cos2, if_pos ⟨q1, q2⟩, if_neg (fun z => q3 z.1)]
            walk_at "fle"
        · have q2 : ¬ cI cs (A + 1) = 45 := by simpa using q2
          walk_at "go"
          refine ⟨(), trivial, ?_, rfl⟩
          rw [cos2, if_neg (fun z => q2 z.2)]
          walk_at "fle"
      · have q1 := of_decide_eq_false q1
        walk_at "go"
        refine ⟨(), trivial, ?_, rfl⟩
        rw [cos2, if_neg (fun z => q1 z.1)]
        walk_at "fle"
    generalize hB : cos2 cs A = B at *
    have hmem : (cI cs A, B.1) ∈ rs := by rw [← hd']; simp
    have hszd : szR done + (B.1 + 1 - cI cs A).toNat ≤ szR rs := by
      rw [← hd']; unfold szR
      rw [List.map_append, List.sum_append, List.map_cons, List.sum_cons]; omega
    refine wb_cut (α := Int × List (Int × AV)) (fun _ => [("codes", some (.ref L)), ("is_negated", some (.bool neg)), ("found", some (.ref v1.length)), ("at", some (.int B.2))]) (fun x => v1 ++ [.idict x.2]) (fun x => x.2.length ≤ szR done + (B.1 + 1 - cI cs A).toNat ∧ ∀ c, (intMapGet x.2 c).isSome = (inR done c || decide (cI cs A ≤ c ∧ c ≤ B.1))) ?_ ?_
    · refine ws_for (α := Int × List (Int × AV)) (fun _ => [("codes", some (.ref L)), ("is_negated", some (.bool neg)), ("found", some (.ref v1.length)), ("at", some (.int B.2))]) (fun x => v1 ++ [.idict x.2]) (fun xs x => cI cs A ≤ x.1 ∧ (x.1 ≤ B.1 + 1 ∨ x.1 = cI cs A) ∧ xs = rngItems (B.1 + 1 - x.1).toNat x.1 ∧ x.2.length ≤ szR done + (x.1 - cI cs A).toNat ∧ ∀ c, (intMapGet x.2 c).isSome = (inR done c || decide (cI cs A ≤ c ∧ c < x.1))) (cI cs A, l) (by intro _ _; rfl) ?_
      walk_at "go"
      refine ⟨_, _, iter_rng (hsm _ hmem), ⟨Int.le_refl _, .inr rfl, rfl, by dsimp only; omega, fun c => ?_⟩, by walk_at "fle", rfl, fun _ _ _ => trivial, ?_, ?_⟩
      · dsimp only
        rw [hg, decide_eq_false (by omega), Bool.or_false]
      · rintro ⟨x, l'⟩ ⟨r1, r2, r3, r4, r5⟩
        dsimp only at r1 r2 r3 r4 r5 ⊢
        have r6 : (B.1 + 1 - x).toNat = 0 := by
          have := congrArg List.length r3
          rw [rngItems_len] at this; exact this.symm
        refine ⟨rfl, (x, l'), ⟨?_, fun c => ?_⟩, fl_refl, rfl⟩
        · show l'.length ≤ _; omega
        · rw [r5]
          congr 1
          rw [Bool.eq_iff_iff, decide_eq_true_eq, decide_eq_true_eq]
          omega
      · rintro y ys ⟨x, l'⟩ ⟨r1, r2, r3, r4, r5⟩
        dsimp only at r1 r2 r3 r4 r5 ⊢
        have r6 : (B.1 + 1 - x).toNat = ys.length + 1 := by
          have := congrArg List.length r3
          rw [rngItems_len] at this; exact this.symm
        rw [r6, rngItems, List.cons.injEq] at r3
        obtain ⟨rfl, r3⟩ := r3
        walk_at "go"
        refine ⟨_, _, _, rfl, rfl, get_last, by omega, ?_⟩
        rw [show (v1 ++ [AO.idict l']).set v1.length (.idict (setIdict l' x (.bool true))) = v1 ++ [.idict (setIdict l' x (.bool true))] by simp]
        walk_at "go"
        refine .inl ⟨rfl, (x + 1, setIdict l' x (.bool true)), ⟨by dsimp only; omega, .inl (by dsimp only; omega), ?_, ?_, fun c => ?_⟩, by walk_at "fle", rfl⟩
        · dsimp only
          rw [show (B.1 + 1 - (x + 1)).toNat = ys.length by omega]
          exact r3
        · have := len_setIdict x (.bool true) l'
          dsimp only; omega
        · dsimp only
          rw [get_setIdict]
          split
          · rename_i q
            subst q
            rw [Option.isSome_some, decide_eq_true (by omega), Bool.or_true]
          · rename_i q
            rw [r5]
            congr 1
            rw [Bool.eq_iff_iff, decide_eq_true_eq, decide_eq_true_eq]
            omega
    · rintro ⟨x9, l'⟩ ⟨r1, r2⟩
      dsimp only at r1 r2 ⊢
      walk_at "go"
      refine .inl ⟨rfl, (B.2 + 1, l'), ⟨by dsimp only; omega, n, done ++ [(cI cs A, B.1)], by dsimp only; omega, by rw [← hd', List.append_assoc]; rfl, ?_, fun c => ?_⟩, by dsimp only; omega, by walk_at "fle", rfl⟩
      · unfold szR at r1 ⊢
        rw [List.map_append, List.sum_append]
        simpa using r1
      · rw [r2]; unfold inR
        rw [List.any_append]
        simp
  · have c1 := of_decide_eq_false c1
    walk_at "go"
    obtain ⟨e1, rfl⟩ := hp1
    refine ⟨_, l, _, rfl, List.append_assoc _ _ _, get_last, fun c => ?_⟩
    rw [hg]
    congr 1
    rw [← hd']
    cases n with
    | zero => rw [cosRun, List.append_nil]
    | succ n => rw [cosRun, if_neg c1, List.append_nil]
end

theorem bin_mod {a b : Int} (h : b ≠ 0) : binop .Mod (.int a) (.int b) = some (.int (a.fmod b)) := by
  show (if b = 0 then none else some (AV.int (a.fmod b))) = _
  rw [if_neg h]
theorem bin_div {a b : Int} (h : b ≠ 0) (h2 : b.natAbs < 1073741824) : binop .FloorDiv (.int a) (.int b) = some (.int (a.fdiv b)) := by
  show (if b = 0 ∨ ¬ b.natAbs < 1073741824 then none else some (AV.int (a.fdiv b))) = _
  rw [if_neg (fun z => z.elim h (fun z => z h2))]
theorem bin_mul {a b : Int} (h : a.natAbs < 2 ^ 64) : binop .Mult (.int a) (.int b) = some (.int (a * b)) := by
  show (if Builtin.Int.intBits a ≤ 64 then some (AV.int (a * b)) else none) = _
  rw [if_pos]
  unfold Builtin.Int.intBits
  split
  · decide
  · rename_i h0
    have h0' : a.natAbs ≠ 0 := by
      intro z; exact h0 (beq_iff_eq.mpr (Int.natAbs_eq_zero.mp z))
    have := (Nat.log2_lt h0').mpr h
    omega
set_option bootstrap.genMatcherCode true
local macro_rules | `(tactic| walk_at "subx") => `(tactic| (refine ws_subL ?_ ?_; rfl))
local macro_rules | `(tactic| walk_at "binx") => `(tactic| first
  | (refine ex_some (bin_mod ?_) ?_; first | decide | omega)
  | (refine ex_some (bin_div ?_ ?_) ?_; (first | decide | omega); (first | decide | omega))
  | (refine ex_some (bin_mul ?_) ?_; (first | decide | omega)))
set_option bootstrap.genMatcherCode false

theorem cmp_ne {vh : VH} {i j : Nat} {xs ys : List Int} (h1 : vh[i]? = some (.list (xs.map .int))) (h2 : vh[j]? = some (.list (ys.map .int))) : cmpop vh .NotEq (.ref i) (.ref j) = some (!decide (xs = ys)) := by
  show (cmpEq vh (.ref i) (.ref j)).map (!·) = _
  rw [cmp_ints h1 h2]; rfl
/-- the deck -/
structure DeckAt (vh : VH) (D D0 : Nat) : Prop where
  out : ∃ (xs : List Int) (m k : Int), D ≠ D0 ∧ vh[D]? = some (.list [.ref D0, .int m, .int k]) ∧ vh[D0]? = some (.list (xs.map .int)) ∧ xs.length ≤ 100
section
variable (w : World) {b : Nat} {vh : VH}
theorem draw_ok {D D0 : Nat} (h : DeckAt vh D D0) {many : Int} (h0 : 0 < many) (h1 : many < 1000000) :
    WC PP w (hd.heap_39 w.params) (b + 1) (.ref 350) [.ref D, .int many] vh fun y vh' => ∃ r, y = .int r ∧ 0 ≤ r ∧ r < many ∧ DeckAt vh' D D0 ∧ Kp (fun i => i = D ∨ i = D0) vh vh' := by
  obtain ⟨xs, m, k, hne, hD, hD0, hl⟩ := h
  refine WK.call ?_
  refine' wk_fun (dx := []) (dv := []) (ps := ["deck", "many"]) ?ho ?hcd ?hbind ?hdv ?hnd ?hlen ?hloc ?hcell ?hco ?hgen ?hk ?hbody
  case ho => k_is
  case hcd => k_is
  case hbind => intro s vs X hl; obtain ⟨v0, v1, rfl⟩ := lst2 (l := vs) hl; exact kp_binds X fun S => rfl
  case hdv => exact fun W => .nil
  case hnd => decide
  case hlen => rfl
  case hloc => decide
  case hcell => decide
  case hco => rfl
  case hgen => rfl
  case hk => rfl
  dsimp only [List.zip, List.zipWith, List.map, List.append_eq, List.append, List.nil_append, List.cons_append]
  walk_at "go"
  refine ⟨_, .list hD (by decide) (by decide) (x := .ref D0) rfl, ?_⟩
  walk_at "go"
  have hD' : (vh ++ [AO.list []])[D]? = some (.list [.ref D0, .int m, .int k]) := get_left hD
  have hD0' : (vh ++ [AO.list []])[D0]? = some (.list (xs.map .int)) := get_left hD0
  refine ex_some (cmp_ne (ys := []) hD0' get_last) ?_
  have hK0 : Kp (fun i => i = D ∨ i = D0) vh (vh ++ [AO.list []]) := Kp.left
  generalize vh ++ [AO.list []] = v1 at hD' hD0' hK0 ⊢
  cases xs with
  | cons x xs =>
    rw [List.map_cons] at hD0'
    refine br_yes (by simp) ?_
    walk_at "go"
    refine ⟨_, .list hD' (by decide) (by decide) (x := .ref D0) rfl, ?_⟩
    walk_at "go"
    refine ⟨_, .list hD0' (by decide) (by decide) (x := .int x) rfl, ?_⟩
    walk_at "go"
    refine ⟨_, .list hD' (by decide) (by decide) (x := .ref D0) rfl, ?_⟩
    walk_at "go"
    refine ⟨_, _, _, rfl, rfl, hD0', by decide, by rw [List.length_cons]; omega, by decide, ?_⟩
    dsimp only [Int.toNat, List.set]
    have g1 := get_ne hne.symm hD' (o' := .list (.int (x.fdiv many) :: xs.map .int))
    have g0 := get_hit hD0' (o' := .list (.int (x.fdiv many) :: xs.map .int))
    have hK1 : Kp (fun i => i = D ∨ i = D0) vh (v1.set D0 (.list (.int (x.fdiv many) :: xs.map .int))) := hK0.trans (Kp.set (.inr rfl))
    generalize v1.set D0 (.list (.int (x.fdiv many) :: xs.map .int)) = v2 at g1 g0 hK1 ⊢
    walk_at "go"
    refine ⟨_, .list g1 (by decide) (by decide) (x := .ref D0) rfl, ?_⟩
    walk_at "go"
    refine ⟨_, .list g0 (by decide) (by decide) (x := .int (x.fdiv many)) rfl, ?_⟩
    walk_at "go"
    rw [List.length_cons] at hl
    refine br_i (fun c1 => ?_) (fun c1 => ?_)
    · walk_at "go"
      refine ⟨_, .list g1 (by decide) (by decide) (x := .ref D0) rfl, ?_⟩
      walk_at "go"
      refine ⟨_, M_list g0 PySem.F.slot_list_pop PySem.F.type_list_pop, keep_builtin, ?_⟩
      walk_at "go"
      refine wc_of (C_pop0 g0 (by rw [List.length_map]; omega)) ?_
      walk_at "go"
      exact ⟨_, rfl, Int.fmod_nonneg_of_pos _ h0, Int.fmod_lt_of_pos _ h0, ⟨xs, m, k, hne, get_ne hne.symm g1, get_hit g0, by omega⟩, hK1.trans (Kp.set (.inr rfl))⟩
    · walk_at "go"
      exact ⟨_, rfl, Int.fmod_nonneg_of_pos _ h0, Int.fmod_lt_of_pos _ h0, ⟨x.fdiv many :: xs, m, k, hne, g1, g0, by rw [List.length_cons]; omega⟩, hK1⟩
  | nil =>
    refine br_no (by simp) ?_
    walk_at "go"
    refine ⟨_, .list hD' (by decide) (by decide) (x := .int k) rfl, ?_⟩
    walk_at "go"
    refine ⟨_, _, _, rfl, rfl, hD', by decide, by show (2 : Int) < 3; decide, by decide, ?_⟩
    dsimp only [Int.toNat, List.set]
    have g1 := get_hit hD' (o' := .list [.ref D0, .int m, .int (k + 1)])
    have g0 := get_ne hne hD0' (o' := .list [.ref D0, .int m, .int (k + 1)])
    have hK1 : Kp (fun i => i = D ∨ i = D0) vh (v1.set D (.list [.ref D0, .int m, .int (k + 1)])) := hK0.trans (Kp.set (.inl rfl))
    generalize v1.set D (.list [.ref D0, .int m, .int (k + 1)]) = v2 at g1 g0 hK1 ⊢
    walk_at "go"
    refine ⟨_, .list g1 (by decide) (by decide) (x := .int m) rfl, ?_⟩
    refine we_int ?_
    refine ex_some (bin_mod (by decide)) ?_
    refine we_bin ?_
    walk_at "go"
    refine ⟨_, .list g1 (by decide) (by decide) (x := .int (k + 1)) rfl, ?_⟩
    have hb1 : ∀ a : Int, 0 ≤ a.fmod 4294966297 ∧ a.fmod 4294966297 < 4294966297 := fun a => ⟨Int.fmod_nonneg_of_pos _ (by decide), Int.fmod_lt_of_pos _ (by decide)⟩
    have hb2 : ∀ a : Int, 0 ≤ a.fmod 4294966237 ∧ a.fmod 4294966237 < 4294966237 := fun a => ⟨Int.fmod_nonneg_of_pos _ (by decide), Int.fmod_lt_of_pos _ (by decide)⟩
    refine ex_some (bin_mul (by decide)) ?_
    refine ex_some (z := .int (m.fmod 4294966297 + 1640531527 * (k + 1))) rfl ?_
    refine we_int ?_
    refine ex_some (bin_mod (by decide)) ?_
    have b1 := hb1 (m.fmod 4294966297 + 1640531527 * (k + 1))
    generalize Int.fmod (m.fmod 4294966297 + 1640531527 * (k + 1)) 4294966297 = m1 at b1 ⊢
    walk_at "go"
    refine ⟨_, .list g1 (by decide) (by decide) (x := .int (k + 1)) rfl, ?_⟩
    refine ex_some (bin_mul (by decide)) ?_
    refine ex_some (z := .int (m1 * m1 + 122949823 * (k + 1))) rfl ?_
    refine we_int ?_
    refine ex_some (bin_mod (by decide)) ?_
    have b2 := hb2 (m1 * m1 + 122949823 * (k + 1))
    generalize Int.fmod (m1 * m1 + 122949823 * (k + 1)) 4294966237 = m2 at b2 ⊢
    walk_at "go"
    exact ⟨_, rfl, Int.fmod_nonneg_of_pos _ h0, Int.fmod_lt_of_pos _ h0, ⟨[], m, k + 1, hne, g1, g0, by decide⟩, hK1⟩
end

noncomputable def onInt (f : Int → Option Int) : AV → Option AV
  | .int i => (f i).map AV.int
  | _ => none
theorem filterMap_ints (f : Int → Option Int) (xs : List Int) : (xs.map AV.int).filterMap (onInt f) = (xs.filterMap f).map AV.int := by
  induction xs with
  | nil => rfl
  | cons x xs ih =>
    rw [List.map_cons, List.filterMap_cons, List.filterMap_cons]
    dsimp only [onInt]
    cases h : f x with
    | none => rw [Option.map_none]; exact ih
    | some y => rw [Option.map_some]; dsimp only; rw [List.map_cons, ih]
section
variable (w : World) {b : Nat} {vh : VH}
theorem deck_ok {ns : List Int} (hl : ns.length ≤ 1000) :
    WC PP w (hd.heap_39 w.params) (b + 1) (.ref 343) [.blist ns] vh fun y vh' => ∃ D D0 e, y = .ref D ∧ vh.length ≤ D ∧ vh.length ≤ D0 ∧ vh' = vh ++ e ∧ DeckAt vh' D D0 := by
  refine WK.call ?_
  refine' wk_fun (dx := []) (dv := []) (ps := ["script"]) ?ho ?hcd ?hbind ?hdv ?hnd ?hlen ?hloc ?hcell ?hco ?hgen ?hk ?hbody
  case ho => k_is
  case hcd => k_is
  case hbind => intro s vs X hl; obtain ⟨v0, rfl⟩ := lst1 (l := vs) hl; exact kp_binds X fun S => rfl
  case hdv => exact fun W => .nil
  case hnd => decide
  case hlen => rfl
  case hloc => decide
  case hcell => decide
  case hco => rfl
  case hgen => rfl
  case hk => rfl
  dsimp only [List.zip, List.zipWith, List.map, List.append_eq, List.append, List.nil_append, List.cons_append]
  refine wb_cons ?_
  refine ws_comp (by rfl) (by intro _ _; rfl) (by rfl) (by rfl) (by rfl) (by rfl) ?_
  refine we_sliceB ?_
  walk_at "go"
  refine ⟨ns, 24, rfl, rfl, by decide, by omega, ?_⟩
  refine ⟨_, _, iter_list, get_last, ?_⟩
  refine wcr_pure (onInt fun i => some ((if i < 0 then -i else i).fmod (10 ^ Int.toNat 90))) rfl (fun _ => get_left get_last) (by rw [List.length_map, List.length_take]; simp; omega) (fun x hx zs => ?_) ?_
  · obtain ⟨i, -, rfl⟩ := List.mem_map.mp hx
    walk_at "go"
    rfl
  · rw [filterMap_ints, List.nil_append]
    have hcl : ((ns.take (Int.toNat 24)).filterMap fun i => some ((if i < 0 then -i else i).fmod (10 ^ Int.toNat 90))).length ≤ 24 := Nat.le_trans (List.length_filterMap_le _ _) (by rw [List.length_take]; exact Nat.min_le_left _ _)
    generalize ((ns.take (Int.toNat 24)).filterMap fun i => some ((if i < 0 then -i else i).fmod (10 ^ Int.toNat 90))) = cells at hcl ⊢
    walk_at "go"
    refine we_comp (by rfl) (by intro _ _; rfl) ?_
    walk_at "go"
    refine ⟨_, _, iter_list, get_last, ?_⟩
    refine wcr_pure (onInt fun i => if 10 ^ Int.toNat 18 ≤ i then some i else none) rfl (fun _ => get_left get_last) (by rw [List.length_map]; simp; omega) (fun x hx zs => ?_) ?_
    · obtain ⟨i, -, rfl⟩ := List.mem_map.mp hx
      walk_at "go"
      refine br_i (fun q => ?_) (fun q => ?_)
      · walk_at "go"
        dsimp only [onInt]
        rw [if_pos (of_decide_eq_true q)]; rfl
      · dsimp only [onInt]
        rw [if_neg (of_decide_eq_false q)]; rfl
    · rw [filterMap_ints, List.nil_append]
      have hbl : (cells.filterMap fun i => if 10 ^ Int.toNat 18 ≤ i then some i else none).length ≤ 24 := Nat.le_trans (List.length_filterMap_le _ _) hcl
      generalize (cells.filterMap fun i => if 10 ^ Int.toNat 18 ≤ i then some i else none) = big at hbl ⊢
      walk_at "go"
      refine wc_of (C_sum (by walk_at "got")) ?_
      walk_at "go"
      refine ⟨_, (vh ++ [AO.list (List.map AV.int (List.take (Int.toNat 24) ns))] ++ [AO.list (List.map AV.int cells)]).length, _, rfl, by simp, by simp, by rw [List.append_assoc, List.append_assoc, List.append_assoc], big, _, 0, by simp, get_last, get_left get_last, by omega⟩
theorem many_ok {ns : List Int} (hl : ns.length ≤ 1000) (lo hi : Int) (hlh : lo ≤ hi) :
    WC PP w (hd.heap_39 w.params) (b + 1) (.ref 355) [.blist ns, .int lo, .int hi] vh fun y vh' => ∃ r e, y = .int r ∧ lo ≤ r ∧ r ≤ hi ∧ vh' = vh ++ e := by
  refine WK.call ?_
  refine' wk_fun (dx := []) (dv := []) (ps := ["script", "least", "most"]) ?ho ?hcd ?hbind ?hdv ?hnd ?hlen ?hloc ?hcell ?hco ?hgen ?hk ?hbody
  case ho => k_is
  case hcd => k_is
  case hbind => intro s vs X hl; obtain ⟨v0, v1, v2, rfl⟩ := lst3 (l := vs) hl; exact kp_binds X fun S => rfl
  case hdv => exact fun W => .nil
  case hnd => decide
  case hlen => rfl
  case hloc => decide
  case hcell => decide
  case hco => rfl
  case hgen => rfl
  case hk => rfl
  dsimp only [List.zip, List.zipWith, List.map, List.append_eq, List.append, List.nil_append, List.cons_append]
  refine wb_cons ?_
  refine ws_tupS ["many", "size"] (by rfl) (by rintro ⟨⟩ rfl; rfl) ?_
  walk_at "go"
  refine we_comp (by rfl) (by intro _ _; rfl) ?_
  refine we_sliceB ?_
  walk_at "go"
  refine ⟨ns, 24, rfl, rfl, by decide, by omega, ?_⟩
  refine ⟨_, _, iter_list, get_last, ?_⟩
  refine wcr_pure (onInt fun i => some (if i < 0 then -i else i)) rfl (fun _ => get_left get_last) (by rw [List.length_map, List.length_take]; simp; omega) (fun x hx zs => ?_) ?_
  · obtain ⟨i, -, rfl⟩ := List.mem_map.mp hx
    walk_at "go"
    rfl
  · rw [filterMap_ints, List.nil_append]
    walk_at "go"
    refine wc_of (C_sum (by walk_at "got")) ?_
    walk_at "go"
    refine ⟨_, rfl, rfl, ?_⟩
    refine wn_name (by rfl) (by rfl) (set_step (by walk_at "setfm") ?_)
    refine wn_name (by rfl) (by rfl) (set_step (by walk_at "setfm") ?_)
    refine wn_nil (th_next ?_)
    generalize (List.filterMap (fun i => some (if i < 0 then -i else i)) (List.take (Int.toNat 24) ns)).sum = sz
    have hp : ∃ e, vh ++ [AO.list (List.map AV.int (List.take (Int.toNat 24) ns))] ++ [AO.list (List.map AV.int (List.filterMap (fun i => some (if i < 0 then -i else i)) (List.take (Int.toNat 24) ns)))] = vh ++ e := ⟨_, List.append_assoc _ _ _⟩
    generalize vh ++ [AO.list (List.map AV.int (List.take (Int.toNat 24) ns))] ++ [AO.list (List.map AV.int (List.filterMap (fun i => some (if i < 0 then -i else i)) (List.take (Int.toNat 24) ns)))] = v1 at hp ⊢
    obtain ⟨e, rfl⟩ := hp
    refine wb_cons ?_
    refine ws_while (α := Int × Int) (fun a => [("least", some (.int lo)), ("most", some (.int hi)), ("many", some (.int a.1)), ("size", some (.int a.2))]) (fun _ => vh ++ e) (fun a => lo ≤ a.1 ∧ a.1 ≤ hi) (fun a => (hi - a.1).toNat) (lo, sz) ⟨Int.le_refl _, hlh⟩ (by walk_at "fle") rfl ?_
    rintro ⟨a, k⟩ ⟨h1, h2⟩
    dsimp only at h1 h2 ⊢
    walk_at "go"
    refine br_i (fun c1 => ?_) (fun c1 => ?_)
    · have c1 := of_decide_eq_true c1
      walk_at "go"
      refine br_i (fun c2 => ?_) (fun c2 => ?_)
      · refine wall_and1 (br_t ?_)
        refine wb_cons (ws_tupS ["many", "size"] (by rfl) (by rintro ⟨⟩ rfl; rfl) ?_)
        walk_at "go"
        refine ⟨_, rfl, rfl, ?_⟩
        refine wn_name (by rfl) (by rfl) (set_step (by walk_at "setfm") ?_)
        refine wn_name (by rfl) (by rfl) (set_step (by walk_at "setfm") ?_)
        refine wn_nil (th_next (wb_nil ?_))
        exact .inl ⟨rfl, (a + 1, _), ⟨by dsimp only; omega, by dsimp only; omega⟩, by dsimp only; omega, by walk_at "fle", rfl⟩
      · walk_at "go"
        exact ⟨a, e, rfl, h1, h2, rfl⟩
    · walk_at "go"
      exact ⟨a, e, rfl, h1, h2, rfl⟩
end

theorem small_of {hi : Int} (h0 : 0 ≤ hi) (h : hi ≤ 1000000) : Builtin.Range.small 0 hi 1 = true := by
  have e : Builtin.Range.rangeSize 0 hi 1 = hi ∨ Builtin.Range.rangeSize 0 hi 1 = 0 := by
    unfold Builtin.Range.rangeSize
    simp
    omega
  unfold Builtin.Range.small Builtin.Range.rangeFitsLong
  rcases e with e | e <;> rw [e] <;> simp <;> omega
/-- the runs of characters that belong -/
noncomputable def lr (P : Nat → Bool) (place : Int) : Int → Option Int → List Nat → List (Int × Int)
  | a, st, [] => match st with
    | some s => [(place + s, place + a)]
    | none => []
  | a, st, c :: r => if P c = true then lr P place (a + 1) (some (st.getD a)) r else match st with
    | some s => (place + s, place + a) :: lr P place (a + 1) none r
    | none => lr P place (a + 1) none r
theorem lr_nil {P : Nat → Bool} {place a : Int} {st : Option Int} : lr P place a st [] = match st with | some s => [(place + s, place + a)] | none => [] := by cases st <;> rfl
theorem lr_cons {P : Nat → Bool} {place a : Int} {st : Option Int} {c : Nat} {r : List Nat} : lr P place a st (c :: r) = if P c = true then lr P place (a + 1) (some (st.getD a)) r else match st with
    | some s => (place + s, place + a) :: lr P place (a + 1) none r
    | none => lr P place (a + 1) none r := by cases st <;> rfl
noncomputable def avOI : Option Int → AV
  | none => .none
  | some i => .int i
noncomputable def due (rs : List (Int × Int)) (bg en at' count : Int) : Int × Bool :=
  if count ≥ 0 then (if count = 0 then (at', true) else if ((rs.filter fun r => r.2 > at').length : Int) ≥ count then (((rs.filter fun r => r.2 > at').map (·.2)).getD (count - 1).toNat 0, true) else (en, false))
  else if ((rs.filter fun r => r.1 < at').length : Int) ≥ 0 - count then ((((rs.filter fun r => r.1 < at').map (·.1)).reverse).getD (0 - count - 1).toNat 0, true) else (bg, false)
noncomputable def around (rs : List (Int × Int)) (at' : Int) : Option (Int × Int) := (rs.filter fun r => decide (r.1 ≤ at') && decide (at' ≤ r.2)).head?
noncomputable def onII (f : Int × Int → Option AV) : AV → Option AV
  | .tup [.int a, .int b] => f (a, b)
  | _ => none
theorem filterMap_II (f : Int × Int → Option AV) (rs : List (Int × Int)) : (rs.map avII).filterMap (onII f) = rs.filterMap f := by
  rw [List.filterMap_map]; rfl
theorem filterMap_if {α β : Type} (p : α → Bool) (g : α → β) (rs : List α) : (rs.filterMap fun r => if p r = true then some (g r) else none) = (rs.filter p).map g := by
  induction rs with
  | nil => rfl
  | cons r rs ih =>
    rw [List.filterMap_cons, List.filter_cons]
    by_cases h : p r = true
    · rw [if_pos h, if_pos h, List.map_cons, ← ih]
    · rw [if_neg h, if_neg h]; exact ih
theorem toPy_II (vh : VH) (n : Nat) (r : Int × Int) : toPy vh (n + 1) (avII r) = some (.tuple [.int r.1, .int r.2]) := by
  have e : toPys vh n [.int r.1, .int r.2] = some [.int r.1, .int r.2] := toPys_cons (toPy_int vh n r.1) (toPys_cons (toPy_int vh n r.2) (show toPys vh n [] = some [] from rfl))
  show (toPys vh n [.int r.1, .int r.2]).map PyData.tuple = _
  rw [e]; rfl
theorem toPys_pairs (vh : VH) (n : Nat) (rs : List (Int × Int)) : toPys vh (n + 1) (rs.map avII) = some (rs.map fun r => .tuple [.int r.1, .int r.2]) := by
  induction rs with
  | nil => rfl
  | cons r rs ih => exact toPys_cons (toPy_II vh n r) ih
theorem canLay_pairs (rs : List (Int × Int)) : PyData.canLayAll0 (rs.map fun r => .tuple [.int r.1, .int r.2]) = true := by
  induction rs with
  | nil => rfl
  | cons r rs ih => rw [List.map_cons, PyData.canLayAll0, ih]; rfl
theorem depth_pairs (rs : List (Int × Int)) : PyData.depthAll (rs.map fun r => .tuple [.int r.1, .int r.2]) ≤ 1 := by
  induction rs with
  | nil => decide
  | cons r rs ih =>
    rw [List.map_cons, PyData.depthAll]
    have : PyData.depth (.tuple [.int r.1, .int r.2]) = 1 := rfl
    omega
theorem shaped_pairs (rs : List (Int × Int)) : SeqAt.shaped (.list (rs.map fun r => .tuple [.int r.1, .int r.2])) = true := by
  unfold SeqAt.shaped
  rw [PyData.canLay0, canLay_pairs, PyData.depth, Bool.true_and, decide_eq_true_eq]
  have := depth_pairs rs
  omega
theorem toPy_pairs {vh : VH} {i n : Nat} {rs : List (Int × Int)} (h : vh[i]? = some (.list (rs.map avII))) : toPy vh (n + 2) (.ref i) = some (.list (rs.map fun r => .tuple [.int r.1, .int r.2])) := by
  rw [toPy_ref _ h, toPys_pairs]; rfl
theorem cmp_ne_pairs {vh : VH} {i j : Nat} {rs : List (Int × Int)} (h1 : vh[i]? = some (.list (rs.map avII))) (h2 : vh[j]? = some (.list [])) : cmpop vh .NotEq (.ref i) (.ref j) = some (!decide (rs = [])) := by
  show (cmpEq vh (.ref i) (.ref j)).map (!·) = _
  unfold cmpEq
  rw [toPy_pairs h1, toPy_ints (xs := []) h2, Option.bind_some, Option.bind_some, shaped_pairs, shaped_ints, Bool.and_self, if_pos rfl, PyData.eqv]
  cases rs <;> rfl

section
variable (w : World) {b : Nat} {vh : VH}
theorem runs_ok (t signs : Str) (place : Int) (hlen : t.cps.size ≤ 1000) : WC PP w (hd.heap_39 w.params) (b + 1) (.ref 362) [.str t, .int place, .str signs] vh fun y vh' => y = .ref vh.length ∧ vh' = vh ++ [.list ((lr (fun c => strIn ⟨#[c]⟩ signs) place 0 none t.cps.toList).map avII)] := by
  refine WK.call ?_
  refine' wk_fun (dx := []) (dv := []) (ps := ["text", "place", "signs"]) ?ho ?hcd ?hbind ?hdv ?hnd ?hlen ?hloc ?hcell ?hco ?hgen ?hk ?hbody
  case ho => k_is
  case hcd => k_is
  case hbind => intro s vs X hl; obtain ⟨v0, v1, v2, rfl⟩ := lst3 (l := vs) hl; exact kp_binds X fun S => rfl
  case hdv => exact fun W => .nil
  case hnd => decide
  case hlen => rfl
  case hloc => decide
  case hcell => decide
  case hco => rfl
  case hgen => rfl
  case hk => rfl
  dsimp only [List.zip, List.zipWith, List.map, List.append_eq, List.append, List.nil_append, List.cons_append]
  generalize hA : lr (fun c => strIn ⟨#[c]⟩ signs) place 0 none t.cps.toList = all
  refine wb_cons ?_
  refine ws_tupS ["found", "start"] (by rfl) (by rintro ⟨⟩ rfl; rfl) ?_
  walk_at "go"
  refine ⟨_, rfl, rfl, ?_⟩
  refine wn_name (by rfl) (by rfl) (set_step (by walk_at "setfm") ?_)
  refine wn_name (by rfl) (by rfl) (set_step (by walk_at "setfm") ?_)
  refine wn_nil (th_next ?_)
  have hts : (t.length : Int) = t.cps.toList.length := by simp [Str.length]
  refine wb_cons ?_
  refine ws_for (α := Int × Option Int × List (Int × Int)) (fun a => [("text", some (.str t)), ("place", some (.int place)), ("signs", some (.str signs)), ("found", some (.ref vh.length)), ("start", some (avOI a.2.1))]) (fun a => vh ++ [.list (a.2.2.map avII)])
    (fun xs a => 0 ≤ a.1 ∧ xs = rngItems ((t.cps.toList.length : Int) + 1 - a.1).toNat a.1 ∧ a.2.2.length ≤ a.1.toNat ∧ if a.1 ≤ t.cps.toList.length then a.2.2 ++ lr (fun c => strIn ⟨#[c]⟩ signs) place a.1 a.2.1 (t.cps.toList.drop a.1.toNat) = all else a.2.2 = all) (0, none, []) (by intro _ _; rfl) ?_
  have hsz : t.length ≤ 1000000 := by show t.cps.size ≤ _; omega
  walk_at "go"
  rw [hts]
  have hts2 : t.cps.toList.length = t.cps.size := by simp
  have hsm : Builtin.Range.small 0 ((t.cps.toList.length : Int) + 1) 1 = true := by
    exact small_of (by omega) (by omega)
  refine ⟨_, _, iter_rng hsm, ⟨Int.le_refl _, rfl, Nat.zero_le _, ?_⟩, by walk_at "fle", rfl, fun _ _ _ => trivial, ?_, ?_⟩
  · dsimp only
    rw [if_pos (by omega), List.nil_append]
    exact hA
  · rintro ⟨a, st, f⟩ ⟨h1, h2, h3, h4⟩
    dsimp only at h1 h2 h3 h4 ⊢
    have r6 : ((t.cps.toList.length : Int) + 1 - a).toNat = 0 := by
      have := congrArg List.length h2
      rw [rngItems_len] at this; exact this.symm
    rw [if_neg (by omega)] at h4
    walk_at "go"
    rw [h4]
  · rintro y ys ⟨a, st, f⟩ ⟨h1, h2, h3, h4⟩
    dsimp only at h1 h2 h3 h4 ⊢
    have r6 : ((t.cps.toList.length : Int) + 1 - a).toNat = ys.length + 1 := by
      have := congrArg List.length h2
      rw [rngItems_len] at this; exact this.symm
    rw [r6, rngItems, List.cons.injEq] at h2
    obtain ⟨rfl, h2⟩ := h2
    rw [if_pos (by omega)] at h4
    have hnext : ys = rngItems ((t.cps.toList.length : Int) + 1 - (a + 1)).toNat (a + 1) := by
      rw [show ((t.cps.toList.length : Int) + 1 - (a + 1)).toNat = ys.length by omega]; exact h2
    have n1 : 0 ≤ a + 1 := by clear h2 hnext h4 r6; omega
    have n2 : f.length ≤ (a + 1).toNat := by clear h2 hnext h4 r6; omega
    have n5 : ∀ q : Int × Int, (f ++ [q]).length ≤ (a + 1).toNat := fun q => by rw [List.length_append, List.length_singleton]; clear h2 hnext h4 r6; omega
    have n6 : (f.map avII).length ≤ 1000000 := by rw [List.length_map]; omega
    have hL : (vh ++ [AO.list (f.map avII)])[vh.length]? = some (.list (f.map avII)) := get_last
    walk_at "go"
    rw [hts]
    by_cases c1 : a < t.cps.toList.length
    · rw [decide_eq_true c1]
      have n3 : a + 1 ≤ t.cps.toList.length := by clear h2 hnext h4 r6; omega
      have hlt : a.toNat < t.cps.toList.length := by omega
      have hdrop : t.cps.toList.drop a.toNat = t.cps.toList[a.toNat] :: t.cps.toList.drop (a + 1).toNat := by
        rw [show (a + 1).toNat = a.toNat + 1 by omega]
        exact (List.drop_eq_getElem_cons hlt)
      generalize hch : t.cps.toList[a.toNat] = ch at hdrop
      have hget : t.cps[a.toNat]? = some ch := by
        rw [← Array.getElem?_toList, List.getElem?_eq_getElem hlt, hch]
      rw [hdrop] at h4
      walk_at "go"
      refine ⟨_, .str h1 (by omega) hget, ?_⟩
      walk_at "go"
      rw [lr_cons] at h4
      generalize hv : strIn ⟨#[ch]⟩ signs = v at h4 ⊢
      cases v with
      | true =>
        rw [if_pos rfl] at h4
        cases st with
        | none =>
          walk_at "go"
          dsimp only [avOI]
          walk_at "go"
          refine .inl ⟨rfl, (a + 1, some a, f), ⟨n1, hnext, n2, ?_⟩, by walk_at "fle", rfl⟩
          dsimp only
          rw [if_pos n3]; exact h4
        | some s =>
          walk_at "go"
          dsimp only [avOI]
          walk_at "go"
          refine .inl ⟨rfl, (a + 1, some s, f), ⟨n1, hnext, n2, ?_⟩, by walk_at "fle", rfl⟩
          dsimp only
          rw [if_pos n3]; exact h4
      | false =>
        rw [if_neg (by simp)] at h4
        cases st with
        | none =>
          walk_at "go"
          dsimp only [avOI]
          walk_at "go"
          refine .inl ⟨rfl, (a + 1, none, f), ⟨n1, hnext, n2, ?_⟩, by walk_at "fle", rfl⟩
          dsimp only
          rw [if_pos n3]; exact h4
        | some s =>
          walk_at "go"
          dsimp only [avOI]
          walk_at "go"
          refine ⟨_, M_list hL PySem.F.slot_list_append PySem.F.type_list_append, keep_builtin, ?_⟩
          walk_at "go"
          refine wc_of (C_append hL n6) ?_
          rw [set_last]
          walk_at "go"
          refine .inl ⟨rfl, (a + 1, none, f ++ [(place + s, place + a)]), ⟨n1, hnext, n5 _, ?_⟩, by walk_at "fle", ?_⟩
          · dsimp only
            rw [if_pos n3, ← h4, List.append_assoc]; rfl
          · dsimp only
            rw [List.map_append]; rfl
    · rw [decide_eq_false c1]
      have n4 : ¬ a + 1 ≤ t.cps.toList.length := by clear h2 hnext h4 r6; omega
      have ha : a = t.cps.toList.length := by omega
      rw [List.drop_of_length_le (by omega)] at h4
      cases st with
      | none =>
        walk_at "go"
        dsimp only [avOI]
        walk_at "go"
        refine .inl ⟨rfl, (a + 1, none, f), ⟨n1, hnext, n2, ?_⟩, by walk_at "fle", rfl⟩
        dsimp only
        rw [if_neg n4, ← h4, lr_nil, List.append_nil]
      | some s =>
        walk_at "go"
        dsimp only [avOI]
        walk_at "go"
        refine ⟨_, M_list hL PySem.F.slot_list_append PySem.F.type_list_append, keep_builtin, ?_⟩
        walk_at "go"
        refine wc_of (C_append hL n6) ?_
        rw [set_last]
        walk_at "go"
        refine .inl ⟨rfl, (a + 1, none, f ++ [(place + s, place + a)]), ⟨n1, hnext, n5 _, ?_⟩, by walk_at "fle", ?_⟩
        · dsimp only
          rw [if_neg n4, ← h4, lr_nil]
        · dsimp only
          rw [List.map_append]; rfl
end

section
variable (w : World) {b : Nat} {vh : VH}
theorem due_ok {R : Nat} {rs : List (Int × Int)} (hR : vh[R]? = some (.list (rs.map avII))) (hl : rs.length ≤ 2000) (bg en at' count : Int) :
    WC PP w (hd.heap_39 w.params) (b + 1) (.ref 367) [.ref R, .int bg, .int en, .int at', .int count] vh fun y vh' => y = avIB (due rs bg en at' count) ∧ ∃ e, vh' = vh ++ e := by
  refine WK.call ?_
  refine' wk_funC (cn := ["at"]) (co := [.cell (some (.int at'))]) (fm0 := [("runs", some (.ref R)), ("begin", some (.int bg)), ("end", some (.int en)), ("count", some (.int count))]) (cl := [("at", vh.length)]) (dx := []) (dv := []) (ps := ["runs", "begin", "end", "at", "count"]) ?ho ?hcd ?hbind ?hdv ?hnd ?hlen ?hloc ?hcs ?hcn ?hck ?hco ?hgen ?hk ?hcl ?hfm ?hob ?hbody
  case ho => k_is
  case hcd => k_is
  case hbind => intro s vs X hl; obtain ⟨v0, v1, v2, v3, v4, rfl⟩ := lst5 (l := vs) hl; exact kp_binds X fun S => rfl
  case hdv => exact fun W => .nil
  case hnd => decide
  case hlen => rfl
  case hloc => decide
  case hcs => rfl
  case hcn => decide
  case hck => decide
  case hco => rfl
  case hgen => rfl
  case hk => rfl
  case hcl => rfl
  case hfm => rfl
  case hob => rfl

  have hR1 : (vh ++ [AO.cell (some (.int at'))])[R]? = some (.list (rs.map avII)) := get_left hR
  have hA1 : (vh ++ [AO.cell (some (.int at'))])[vh.length]? = some (.cell (some (.int at'))) := get_last
  have hp : ∃ e, vh ++ [AO.cell (some (.int at'))] = vh ++ e := ⟨_, rfl⟩
  generalize vh ++ [AO.cell (some (.int at'))] = v1 at hR1 hA1 hp ⊢
  walk_at "go"
  refine br_i (fun c0 => ?_) (fun c0 => ?_)
  · have c0 := of_decide_eq_true c0
    refine wb_cons ?_
    refine ws_comp (by rfl) (by intro _ _; rfl) (by rfl) (by rfl) (by rfl) (by rfl) ?_
    walk_at "go"
    refine ⟨_, _, iter_list, hR1, ?_⟩
    refine wcr_pure (onII fun r => if decide (at' < r.2) = true then some (.int r.2) else none) rfl (fun _ => get_left hR1) (by rw [List.length_map]; simp; omega) (fun x hx zs => ?_) ?_
    · obtain ⟨r, -, rfl⟩ := List.mem_map.mp hx
      walk_at "go"
      refine ⟨_, .tup (by decide) (by decide) (x := .int r.2) rfl, ?_⟩
      walk_at "go"
      refine br_i (fun q => ?_) (fun q => ?_)
      · walk_at "go"
        refine ⟨_, .tup (by decide) (by decide) (x := .int r.2) rfl, rfl, ?_⟩
        show (if decide (at' < r.2) = true then some (AV.int r.2) else none) = _
        rw [if_pos q]
      · show (if decide (at' < r.2) = true then some (AV.int r.2) else none) = _
        rw [if_neg (by rw [q]; simp)]
    · rw [filterMap_II, List.nil_append, filterMap_if (fun r : Int × Int => decide (at' < r.2)) (fun r : Int × Int => AV.int r.2)]
      have hE : ((rs.filter fun r : Int × Int => decide (at' < r.2)).map fun r : Int × Int => AV.int r.2) = ((rs.filter fun r : Int × Int => decide (at' < r.2)).map (·.2)).map .int := by rw [List.map_map]; rfl
      rw [hE]
      have hEl : (rs.filter fun r : Int × Int => decide (at' < r.2)).length ≤ 2000 := Nat.le_trans (List.length_filter_le _ _) hl
      have hdue : due rs bg en at' count = if count = 0 then (at', true) else if ((rs.filter fun r => decide (at' < r.2)).length : Int) ≥ count then (((rs.filter fun r => decide (at' < r.2)).map (·.2)).getD (count - 1).toNat 0, true) else (en, false) := by
        unfold due; rw [if_pos c0]
      rw [hdue]
      generalize (rs.filter fun r : Int × Int => decide (at' < r.2)) = E at hEl ⊢
      have hlenE : (E.map (·.2)).length = E.length := List.length_map ..
      walk_at "go"
      refine br_i (fun c1 => ?_) (fun c1 => ?_)
      · walk_at "go"
        have c1 := eq_of_beq c1
        obtain ⟨e, rfl⟩ := hp
        exact ⟨by rw [if_pos c1]; rfl, _, List.append_assoc _ _ _⟩
      · have c1 : ¬ count = 0 := by simpa using c1
        rw [if_neg c1]
        walk_at "go"
        rw [List.length_map, List.length_map]
        refine br_i (fun c2 => ?_) (fun c2 => ?_)
        · have c2 := of_decide_eq_true c2
          walk_at "go"
          refine ⟨_, .list get_last (by omega) (by omega) (cI_get (by omega) (by rw [hlenE]; omega)), ?_⟩
          walk_at "go"
          obtain ⟨e, rfl⟩ := hp
          exact ⟨by rw [if_pos c2]; rfl, _, List.append_assoc _ _ _⟩
        · have c2 := of_decide_eq_false c2
          walk_at "go"
          obtain ⟨e, rfl⟩ := hp
          exact ⟨by rw [if_neg c2]; rfl, _, List.append_assoc _ _ _⟩
  · have c0 := of_decide_eq_false c0
    walk_at "go"
    refine we_sliceL ?_
    refine we_comp (by rfl) (by intro _ _; rfl) ?_
    walk_at "go"
    refine ⟨_, _, iter_list, hR1, ?_⟩
    refine wcr_pure (onII fun r => if decide (r.1 < at') = true then some (.int r.1) else none) rfl (fun _ => get_left hR1) (by rw [List.length_map]; simp; omega) (fun x hx zs => ?_) ?_
    · obtain ⟨r, -, rfl⟩ := List.mem_map.mp hx
      walk_at "go"
      refine ⟨_, .tup (by decide) (by decide) (x := .int r.1) rfl, ?_⟩
      walk_at "go"
      refine br_i (fun q => ?_) (fun q => ?_)
      · walk_at "go"
        refine ⟨_, .tup (by decide) (by decide) (x := .int r.1) rfl, rfl, ?_⟩
        show (if decide (r.1 < at') = true then some (AV.int r.1) else none) = _
        rw [if_pos q]
      · show (if decide (r.1 < at') = true then some (AV.int r.1) else none) = _
        rw [if_neg (by rw [q]; simp)]
    · rw [filterMap_II, List.nil_append, filterMap_if (fun r : Int × Int => decide (r.1 < at')) (fun r : Int × Int => AV.int r.1)]
      have hE : ((rs.filter fun r : Int × Int => decide (r.1 < at')).map fun r : Int × Int => AV.int r.1) = ((rs.filter fun r : Int × Int => decide (r.1 < at')).map (·.1)).map .int := by rw [List.map_map]; rfl
      rw [hE]
      have hEl : (rs.filter fun r : Int × Int => decide (r.1 < at')).length ≤ 2000 := Nat.le_trans (List.length_filter_le _ _) hl
      have hdue : due rs bg en at' count = if ((rs.filter fun r => decide (r.1 < at')).length : Int) ≥ 0 - count then ((((rs.filter fun r => decide (r.1 < at')).map (·.1)).reverse).getD (0 - count - 1).toNat 0, true) else (bg, false) := by
        unfold due; rw [if_neg c0]
      rw [hdue]
      generalize (rs.filter fun r : Int × Int => decide (r.1 < at')) = E at hEl ⊢
      walk_at "go"
      refine ⟨_, (E.map (·.1)).map .int, none, none, some (-1), rfl, get_last, rfl, rfl, rfl, by decide, by rw [List.length_map, List.length_map]; omega, ?_⟩
      have hrev : (((E.map (·.1)).map AV.int).reverse : List AV) = ((E.map (·.1)).reverse).map AV.int := by simp
      rw [pick_rev, hrev]
      have hlenE : (E.map (·.1)).reverse.length = E.length := by rw [List.length_reverse, List.length_map]
      have hlenE2 : ((E.map (·.1)).reverse.map AV.int).length = E.length := by rw [List.length_map, hlenE]
      walk_at "go"
      rw [hlenE2]
      refine br_i (fun c2 => ?_) (fun c2 => ?_)
      · have c2 := of_decide_eq_true c2
        walk_at "go"
        refine ⟨_, .list get_last (by omega) (by omega) (cI_get (by omega) (by rw [hlenE]; omega)), ?_⟩
        walk_at "go"
        obtain ⟨e, rfl⟩ := hp
        exact ⟨by rw [if_pos c2]; rfl, _, by rw [List.append_assoc, List.append_assoc]⟩
      · have c2 := of_decide_eq_false c2
        walk_at "go"
        obtain ⟨e, rfl⟩ := hp
        exact ⟨by rw [if_neg c2]; rfl, _, by rw [List.append_assoc, List.append_assoc]⟩
theorem around_ok {R : Nat} {rs : List (Int × Int)} (hR : vh[R]? = some (.list (rs.map avII))) (hl : rs.length ≤ 2000) (at' : Int) :
    WC PP w (hd.heap_39 w.params) (b + 1) (.ref 372) [.ref R, .int at'] vh fun y vh' => y = avO (around rs at') ∧ ∃ e, vh' = vh ++ e := by
  refine WK.call ?_
  refine' wk_funC (cn := ["at"]) (co := [.cell (some (.int at'))]) (fm0 := [("runs", some (.ref R))]) (cl := [("at", vh.length)]) (dx := []) (dv := []) (ps := ["runs", "at"]) ?ho ?hcd ?hbind ?hdv ?hnd ?hlen ?hloc ?hcs ?hcn ?hck ?hco ?hgen ?hk ?hcl ?hfm ?hob ?hbody
  case ho => k_is
  case hcd => k_is
  case hbind => intro s vs X hl; obtain ⟨v0, v1, rfl⟩ := lst2 (l := vs) hl; exact kp_binds X fun S => rfl
  case hdv => exact fun W => .nil
  case hnd => decide
  case hlen => rfl
  case hloc => decide
  case hcs => rfl
  case hcn => decide
  case hck => decide
  case hco => rfl
  case hgen => rfl
  case hk => rfl
  case hcl => rfl
  case hfm => rfl
  case hob => rfl

  have hR1 : (vh ++ [AO.cell (some (.int at'))])[R]? = some (.list (rs.map avII)) := get_left hR
  have hA1 : (vh ++ [AO.cell (some (.int at'))])[vh.length]? = some (.cell (some (.int at'))) := get_last
  have hp : ∃ e, vh ++ [AO.cell (some (.int at'))] = vh ++ e := ⟨_, rfl⟩
  generalize vh ++ [AO.cell (some (.int at'))] = v1 at hR1 hA1 hp ⊢
  refine wb_cons ?_
  refine ws_comp (by rfl) (by intro _ _; rfl) (by rfl) (by rfl) (by rfl) (by rfl) ?_
  walk_at "go"
  refine ⟨_, _, iter_list, hR1, ?_⟩
  refine wcr_pure (onII fun r => if (decide (r.1 ≤ at') && decide (at' ≤ r.2)) = true then some (avII r) else none) rfl (fun _ => get_left hR1) (by rw [List.length_map]; simp; omega) (fun x hx zs => ?_) ?_
  · obtain ⟨r, -, rfl⟩ := List.mem_map.mp hx
    walk_at "go"
    refine ⟨_, .tup (by decide) (by decide) (x := .int r.1) rfl, ?_⟩
    walk_at "go"
    refine br_i (fun q => ?_) (fun q => ?_)
    · walk_at "go"
      refine ⟨_, .tup (by decide) (by decide) (x := .int r.2) rfl, ?_⟩
      walk_at "go"
      refine br_i (fun q2 => ?_) (fun q2 => ?_)
      · walk_at "go"
        show (if (decide (r.1 ≤ at') && decide (at' ≤ r.2)) = true then some (avII r) else none) = _
        rw [q, q2]; rfl
      · show (if (decide (r.1 ≤ at') && decide (at' ≤ r.2)) = true then some (avII r) else none) = _
        rw [q2, Bool.and_false]; rfl
    · walk_at "go"
      show (if (decide (r.1 ≤ at') && decide (at' ≤ r.2)) = true then some (avII r) else none) = _
      rw [q]; rfl
  · rw [filterMap_II, List.nil_append, filterMap_if (fun r : Int × Int => decide (r.1 ≤ at') && decide (at' ≤ r.2)) avII]
    have hEl : (rs.filter fun r : Int × Int => decide (r.1 ≤ at') && decide (at' ≤ r.2)).length ≤ 2000 := Nat.le_trans (List.length_filter_le _ _) hl
    unfold around
    generalize (rs.filter fun r : Int × Int => decide (r.1 ≤ at') && decide (at' ≤ r.2)) = E at hEl ⊢
    walk_at "go"
    refine ex_some (cmp_ne_pairs (get_left get_last) get_last) ?_
    cases E with
    | nil =>
      refine br_no (by simp) ?_
      walk_at "go"
      obtain ⟨e, rfl⟩ := hp
      exact ⟨_, by rw [List.append_assoc, List.append_assoc]⟩
    | cons r E =>
      refine br_yes (by simp) ?_
      walk_at "go"
      refine ⟨_, .list (get_left get_last) (by decide) (by decide) (x := avII r) rfl, ?_⟩
      walk_at "go"
      obtain ⟨e, rfl⟩ := hp
      exact ⟨_, by rw [List.append_assoc, List.append_assoc]⟩
end

/-- the codes of a text -/
noncomputable def codesOf (t : Str) : List Int := t.cps.toList.map fun (n : Nat) => (n : Int)
noncomputable def pk (t : Str) (p : Int) (pf : Nat → Bool) (q : Int) : Bool := within (codesOf t) p q && pf (codeAt (codesOf t) p q).toNat
theorem codesOf_len (t : Str) : (codesOf t).length = t.cps.size := by unfold codesOf; simp
theorem char_at {t : Str} {p q : Int} (h : within (codesOf t) p q = true) : t.cps[(q - p).toNat]? = some (codeAt (codesOf t) p q).toNat := by
  obtain ⟨e, -⟩ := codeAt_in h
  have h' := of_decide_eq_true h
  rw [codesOf_len] at h'
  have hlt : (q - p).toNat < t.cps.size := by omega
  have hlt' : (q - p).toNat < t.cps.toList.length := by simpa using hlt
  rw [e, ← Array.getElem?_toList, List.getElem?_eq_getElem hlt', codesOf, List.getD_eq_getElem?_getD, List.getElem?_map, List.getElem?_eq_getElem hlt']
  rfl
section
variable (w : World) {b : Nat} {vh : VH}
theorem skipped_ok (t : Str) (p at' limit : Int) (hp : p ≤ at') (hp2 : at' ≤ p + t.cps.size) (hlen : t.cps.size ≤ 1000) (x : AV) (f : AV → Option Bool) (pf : Nat → Bool) (hx : PredIs PP w (hd.heap_39 w.params) b vh x f) (hf : ∀ c, f (.str ⟨#[c]⟩) = some (pf c)) :
    WC PP w (hd.heap_39 w.params) (b + 2) (.ref 379) [.str t, .int p, .int at', .int limit, x] vh fun y vh' => y = .int (skipTo (pk t p pf) at' limit p (p + t.cps.size)) ∧ vh' = vh := by
  refine WK.call ?_
  refine' wk_fun (dx := []) (dv := []) (ps := ["text", "place", "at", "limit", "is_part"]) ?ho ?hcd ?hbind ?hdv ?hnd ?hlen ?hloc ?hcell ?hco ?hgen ?hk ?hbody
  case ho => k_is
  case hcd => k_is
  case hbind => intro s vs X hl; obtain ⟨v0, v1, v2, v3, v4, rfl⟩ := lst5 (l := vs) hl; exact kp_binds X fun S => rfl
  case hdv => exact fun W => .nil
  case hnd => decide
  case hlen => rfl
  case hloc => decide
  case hcell => decide
  case hco => rfl
  case hgen => rfl
  case hk => rfl
  dsimp only [List.zip, List.zipWith, List.map, List.append_eq, List.append, List.nil_append, List.cons_append]
  have hts : (t.length : Int) = t.cps.size := rfl
  have hsz : t.length ≤ 1000000 := by show t.cps.size ≤ _; omega
  walk_at "go"
  refine br_i (fun c0 => ?_) (fun c0 => ?_)
  · refine wb_cons ?_
    rw [skipTo, if_pos (of_decide_eq_true c0)]
    have hbnd : (if p + (t.cps.size : Int) < limit then p + (t.cps.size : Int) else limit) ≤ p + t.cps.size := by split <;> omega
    generalize he : (if p + (t.cps.size : Int) < limit then p + (t.cps.size : Int) else limit) = e at hbnd ⊢
    refine ws_while (α := Int) (fun a => [("text", some (.str t)), ("place", some (.int p)), ("at", some (.int a)), ("limit", some (.int limit)), ("is_part", some x), ("end", some (.int (p + t.length)))]) (fun _ => vh) (fun a => p ≤ a ∧ skipF (pk t p pf) (e - a).toNat a = skipF (pk t p pf) (e - at').toNat at') (fun a => (e - a).toNat) at' ⟨hp, rfl⟩ (by walk_at "fle") rfl fun a ha => ?_
    obtain ⟨ha0, ha⟩ := ha
    walk_at "go"
    rw [hts, he]
    refine br_i (fun c1 => ?_) (fun c1 => ?_)
    · have c1 := of_decide_eq_true c1
      have hw : within (codesOf t) p a = true := decide_eq_true (by rw [codesOf_len]; omega)
      refine wall_and ?_
      refine wt_plain (by rfl) ?_
      refine we_callPred (f := f) (v := pf (codeAt (codesOf t) p a).toNat) (by rfl) ?_
      walk_at "go"
      refine ⟨_, .str (by omega) (by omega) (char_at hw), ?_⟩
      refine ⟨hx, hf _, ?_⟩
      walk_at "go"
      refine br_i (fun c2 => ?_) (fun c2 => ?_)
      · walk_at "go"
        refine .inl ⟨rfl, a + 1, ⟨by omega, ?_⟩, tUp_lt c1, by walk_at "fle", rfl⟩
        rw [skipF_yes c1 (by rw [pk, hw]; exact c2), ha]
      · walk_at "go"
        rw [← ha, skipF_no (by rw [pk, hw]; exact c2)]
        exact ⟨rfl, rfl⟩
    · walk_at "go"
      rw [← ha, skipF_stop (of_decide_eq_false c1)]
      exact ⟨rfl, rfl⟩
  · walk_at "go"
    rw [skipTo, if_neg (of_decide_eq_false c0)]
    have hbnd : p ≤ (if p > limit then p else limit) := by split <;> omega
    generalize he : (if p > limit then p else limit) = e at hbnd ⊢
    refine ws_while (α := Int) (fun a => [("text", some (.str t)), ("place", some (.int p)), ("at", some (.int a)), ("limit", some (.int limit)), ("is_part", some x), ("end", some (.int (p + t.length)))]) (fun _ => vh) (fun a => a ≤ p + t.cps.size ∧ skipB (pk t p pf) (a - e).toNat a = skipB (pk t p pf) (at' - e).toNat at') (fun a => (a - e).toNat) at' ⟨hp2, rfl⟩ (by walk_at "fle") rfl fun a ha => ?_
    obtain ⟨ha0, ha⟩ := ha
    walk_at "go"
    rw [he]
    refine br_i (fun c1 => ?_) (fun c1 => ?_)
    · have c1 := of_decide_eq_true c1
      have hw : within (codesOf t) p (a - 1) = true := decide_eq_true (by rw [codesOf_len]; omega)
      refine wall_and ?_
      refine wt_plain (by rfl) ?_
      refine we_callPred (f := f) (v := pf (codeAt (codesOf t) p (a - 1)).toNat) (by rfl) ?_
      walk_at "go"
      refine ⟨_, .str (by omega) (by omega) (char_at hw), ?_⟩
      refine ⟨hx, hf _, ?_⟩
      walk_at "go"
      refine br_i (fun c2 => ?_) (fun c2 => ?_)
      · walk_at "go"
        refine .inl ⟨rfl, a - 1, ⟨by omega, ?_⟩, tDn_lt c1, by walk_at "fle", rfl⟩
        rw [skipB_yes c1 (by rw [pk, hw]; exact c2), ha]
      · walk_at "go"
        rw [← ha, skipB_no (by rw [pk, hw]; exact c2)]
        exact ⟨rfl, rfl⟩
    · walk_at "go"
      rw [← ha, skipB_stop (of_decide_eq_false c1)]
      exact ⟨rfl, rfl⟩
end

/-- at a stands r, up to e -/
noncomputable def Suf (P : Int → Bool) (Pc : Nat → Bool) (e : Int) : Int → List Nat → Prop
  | a, [] => a = e
  | a, c :: r => P a = Pc c ∧ Suf P Pc e (a + 1) r
noncomputable def En (P : Int → Bool) : Nat → Int → List Int
  | 0, _ => []
  | n + 1, a => if (P a && !P (a + 1)) = true then (a + 1) :: En P n (a + 1) else En P n (a + 1)
noncomputable def St (P : Int → Bool) : Nat → Int → List Int
  | 0, _ => []
  | n + 1, a => if (P a && !P (a - 1)) = true then a :: St P n (a + 1) else St P n (a + 1)
noncomputable def Sb (P : Int → Bool) : Nat → Int → List Int
  | 0, _ => []
  | n + 1, a => if (P (a - 1) && !P (a - 2)) = true then (a - 1) :: Sb P n (a - 1) else Sb P n (a - 1)

theorem lr_shift (Pc : Nat → Bool) (p : Int) : ∀ (r : List Nat) (a : Int) (st : Option Int), lr Pc p a st r = lr Pc 0 (p + a) (st.map (p + ·)) r
  | [], a, st => by cases st <;> simp [lr_nil]
  | c :: r, a, st => by
    rw [lr_cons, lr_cons]
    have e1 : p + (a + 1) = p + a + 1 := by omega
    by_cases h : Pc c = true
    · rw [if_pos h, if_pos h, lr_shift Pc p r]
      rw [e1]
      cases st <;> rfl
    · rw [if_neg h, if_neg h]
      cases st with
      | none => dsimp only [Option.map_none]; rw [lr_shift Pc p r, e1]; rfl
      | some s =>
        dsimp only [Option.map_some]
        rw [lr_shift Pc p r, e1]
        simp

section
variable {P : Int → Bool} {Pc : Nat → Bool} {e : Int}
theorem lr_ends (hPe : ∀ q, e ≤ q → P q = false) : ∀ (r : List Nat) (a : Int), Suf P Pc e a r → ((lr Pc 0 a none r).map (·.2) = En P r.length a) ∧ ∀ s, (lr Pc 0 a (some s) r).map (·.2) = if P a = true then En P r.length a else a :: En P r.length a
  | [], a, h => by
    have h : a = e := h
    refine ⟨rfl, fun s => ?_⟩
    rw [lr_nil, if_neg (by rw [hPe a (by omega)]; simp)]
    simp [En]
  | c :: r, a, ⟨h1, h2⟩ => by
    obtain ⟨i1, i2⟩ := lr_ends hPe r (a + 1) h2
    have e1 : En P (c :: r).length a = if (P a && !P (a + 1)) = true then (a + 1) :: En P r.length (a + 1) else En P r.length (a + 1) := rfl
    refine ⟨?_, fun s => ?_⟩
    · rw [lr_cons, e1, ← h1]
      cases hp : P a with
      | true =>
        rw [if_pos rfl, i2]
        cases P (a + 1) <;> simp
      | false => simpa using i1
    · rw [lr_cons, e1, ← h1]
      cases hp : P a with
      | true =>
        rw [if_pos rfl, if_pos rfl]
        dsimp only [Option.getD_some]
        rw [i2]
        cases P (a + 1) <;> simp
      | false => simp [i1]
theorem lr_starts : ∀ (r : List Nat) (a : Int), Suf P Pc e a r → (P (a - 1) = false → (lr Pc 0 a none r).map (·.1) = St P r.length a) ∧ ∀ s, P (a - 1) = true → (lr Pc 0 a (some s) r).map (·.1) = s :: St P r.length a
  | [], a, h => ⟨fun _ => rfl, fun s _ => by rw [lr_nil]; simp [St]⟩
  | c :: r, a, ⟨h1, h2⟩ => by
    obtain ⟨i1, i2⟩ := lr_starts r (a + 1) h2
    rw [show a + 1 - 1 = a by omega] at i1 i2
    have e1 : St P (c :: r).length a = if (P a && !P (a - 1)) = true then a :: St P r.length (a + 1) else St P r.length (a + 1) := rfl
    refine ⟨fun hq => ?_, fun s hq => ?_⟩
    · rw [lr_cons, e1, ← h1, hq]
      cases hp : P a with
      | true =>
        rw [if_pos rfl, i2 _ hp]; simp
      | false => simpa using i1 hp
    · rw [lr_cons, e1, ← h1, hq]
      cases hp : P a with
      | true =>
        rw [if_pos rfl, i2 _ hp]; simp
      | false => simpa using i1 hp

theorem En_gt : ∀ (n : Nat) (a x : Int), x ∈ En P n a → a < x
  | n + 1, a, x, h => by
    rw [En] at h
    split at h
    · rcases List.mem_cons.mp h with rfl | h
      · omega
      · have := En_gt n (a + 1) x h; omega
    · have := En_gt n (a + 1) x h; omega
theorem En_filter (at' : Int) : ∀ (n k : Nat) (a : Int), a + k = at' → (En P (k + n) a).filter (fun x => decide (at' < x)) = En P n at'
  | n, 0, a, h => by
    have h : a = at' := by omega
    subst h
    rw [Nat.zero_add, List.filter_eq_self]
    intro x hx
    exact decide_eq_true (En_gt _ _ _ hx)
  | n, k + 1, a, h => by
    rw [show k + 1 + n = (k + n) + 1 by omega, En]
    have ih := En_filter at' n k (a + 1) (by omega)
    split
    · rw [List.filter_cons, if_neg (by simp; omega)]; exact ih
    · exact ih
theorem St_ge : ∀ (n : Nat) (a x : Int), x ∈ St P n a → a ≤ x ∧ x < a + n
  | n + 1, a, x, h => by
    rw [St] at h
    split at h
    · rcases List.mem_cons.mp h with rfl | h
      · omega
      · have := St_ge n (a + 1) x h; omega
    · have := St_ge n (a + 1) x h; omega
theorem St_filter (at' : Int) : ∀ (n k : Nat) (a : Int), a + k = at' → (St P (k + n) a).filter (fun x => decide (x < at')) = St P k a
  | n, 0, a, h => by
    rw [Nat.zero_add, St, List.filter_eq_nil_iff]
    intro x hx
    have := St_ge _ _ _ hx
    simp; omega
  | n, k + 1, a, h => by
    rw [show k + 1 + n = (k + n) + 1 by omega, St, St]
    have ih := St_filter at' n k (a + 1) (by omega)
    split
    · rw [List.filter_cons, if_pos (by simp; omega), ih]
    · exact ih
theorem St_snoc : ∀ (n : Nat) (a : Int), St P (n + 1) a = St P n a ++ if (P (a + n) && !P (a + n - 1)) = true then [a + n] else []
  | 0, a => by
    rw [St, St, St]
    simp
  | n + 1, a => by
    rw [St, St_snoc n (a + 1), St, show a + 1 + (n : Int) = a + (n + 1 : Nat) by omega]
    split <;> simp
theorem St_rev : ∀ (n : Nat) (a : Int), (St P n a).reverse = Sb P n (a + n)
  | 0, a => rfl
  | n + 1, a => by
    rw [St_snoc, List.reverse_append, St_rev n a, Sb, show a + ((n + 1 : Nat) : Int) - 1 = a + n by omega, show a + ((n + 1 : Nat) : Int) - 2 = a + n - 1 by omega]
    split <;> simp

theorem tn0 {x y : Int} (h : 0 ≤ y) : x.toNat - y.toNat = (x - y).toNat := by rw [← Int.toNat_sub', Int.toNat_of_nonneg h]
theorem tn1 {a s e : Int} (h : a ≤ s) : (e - a).toNat - (s - a).toNat = (e - s).toNat := by rw [tn0 (Int.sub_nonneg_of_le h)]; congr 1; omega
theorem tn5 {x y : Int} (n : Nat) (h : 0 ≤ x) (e : y = x + 1) : n - x.toNat = n + 1 - y.toNat := by rw [e, Int.toNat_add h (by decide)]; exact (Nat.add_sub_add_right n 1 _).symm
theorem tn2 {a s : Int} (n : Nat) (h : a + 1 ≤ s) : n - (s - (a + 1)).toNat = n + 1 - (s - a).toNat := tn5 n (Int.sub_nonneg_of_le h) (by omega)
theorem tn3 {a s : Int} (n : Nat) (h : s ≤ a - 1) : n - (a - 1 - s).toNat = n + 1 - (a - s).toNat := tn5 n (Int.sub_nonneg_of_le h) (by omega)
theorem tn4 {a s e : Int} (h : s ≤ a) : (a - e).toNat - (a - s).toNat = (s - e).toNat := by rw [tn0 (Int.sub_nonneg_of_le h)]; congr 1; omega
/-! the code's own way -/
variable {N : Int → Bool} {p : Int}
theorem En_skipN (hN : ∀ q, N q = true → P q = false) : ∀ (n : Nat) (a : Int), En P n a = En P (n - (skipF N n a - a).toNat) (skipF N n a)
  | 0, a => by rw [skipF]; simp
  | n + 1, a => by
    rw [skipF]
    split
    · rename_i h
      have hge := skipF_ge (P := N) n (a + 1)
      rw [En, hN a h, En_skipN hN n (a + 1)]
      simp only [Bool.false_and, Bool.false_eq_true, if_false]
      rw [tn2 n hge]
    · rw [Int.sub_self]; rfl
theorem En_skipP : ∀ (n : Nat) (a : Int), P a = true → P (a + n) = false → En P n a = skipF P n a :: En P (n - (skipF P n a - a).toNat) (skipF P n a)
  | 0, a, h1, h2 => by simp [h1] at h2
  | n + 1, a, h1, h2 => by
    rw [skipF, if_pos h1, En, h1]
    cases h3 : P (a + 1) with
    | false =>
      have e1 : skipF P n (a + 1) = a + 1 := skipF_no h3
      rw [e1, show (a + 1 - a).toNat = 1 by omega]
      simp
    | true =>
      have hge := skipF_ge (P := P) n (a + 1)
      have ih := En_skipP n (a + 1) h3 (by rw [← h2]; congr 1; omega)
      simp only [Bool.not_true, Bool.and_false, Bool.false_eq_true, if_false]
      rw [ih, tn2 n hge]
theorem fwdF_eq (hN : ∀ q, p ≤ q → q < e → N q = !P q) (hPe : ∀ q, e ≤ q → P q = false) (hN0 : ∀ q, N q = true → P q = false) : ∀ (k : Nat) (a : Int), p ≤ a → a ≤ e → fwdF P N e (k + 1) a = if k < (En P (e - a).toNat a).length then ((En P (e - a).toNat a).getD k 0, true) else (e, false)
  | k, a, h0, h1 => by
    rw [fwdF]
    have hge := skipF_ge (P := N) (e - a).toNat a
    have hle := skipF_le (P := N) (e - a).toNat a
    have hend := skipF_end (P := N) (e - a).toNat a
    rw [En_skipN hN0 (e - a).toNat a]
    generalize hs : skipF N (e - a).toNat a = s at *
    rw [tn1 hge]
    by_cases c : s ≥ e
    · rw [if_pos c, show (e - s).toNat = 0 by omega, En, if_neg (by simp)]
    · rw [if_neg c]
      have hPs : P s = true := by
        have := hend (by omega)
        rw [hN s (by omega) (by omega)] at this
        simpa using this
      have hEn := En_skipP (e - s).toNat s hPs (hPe _ (by omega))
      have hge2 := skipF_ge (P := P) (e - s).toNat s
      have hle2 := skipF_le (P := P) (e - s).toNat s
      rw [hEn]
      generalize skipF P (e - s).toNat s = t at *
      rw [tn1 hge2]
      cases k with
      | zero => rw [fwdF, if_pos (by simp)]; rfl
      | succ k =>
        rw [fwdF_eq hN hPe hN0 k t (by omega) (by omega)]
        simp
end

section
variable {P : Int → Bool} {Pc : Nat → Bool} {e p : Int} {N : Int → Bool}
theorem skipB_le : ∀ (n : Nat) (a : Int), skipB P n a ≤ a
  | 0, a => Int.le_refl _
  | n + 1, a => by
    rw [skipB]
    split
    · have := skipB_le n (a - 1); omega
    · omega
theorem skipB_ge : ∀ (n : Nat) (a : Int), a - n ≤ skipB P n a
  | 0, a => by show _ ≤ a; omega
  | n + 1, a => by
    rw [skipB]
    split
    · have := skipB_ge n (a - 1); omega
    · omega
theorem skipB_end : ∀ (n : Nat) (a : Int), a - n < skipB P n a → P (skipB P n a - 1) = false
  | 0, a, h => by rw [skipB] at h; omega
  | n + 1, a, h => by
    rw [skipB] at h ⊢
    split at h
    · rename_i q
      rw [if_pos q]
      exact skipB_end n (a - 1) (by omega)
    · rename_i q
      rw [if_neg q]
      simpa using q
theorem skipF_to {t : Int} : ∀ (n : Nat) (a : Int), a ≤ t → t ≤ a + n → (∀ q, a ≤ q → q < t → P q = true) → P t = false → skipF P n a = t
  | 0, a, h1, h2, h3, h4 => by show a = t; omega
  | n + 1, a, h1, h2, h3, h4 => by
    by_cases h : a = t
    · subst h; exact skipF_no h4
    · rw [skipF, if_pos (h3 a (by omega) (by omega))]
      exact skipF_to n (a + 1) (by omega) (by omega) (fun q x y => h3 q (by omega) y) h4
theorem skipB_to {s : Int} : ∀ (n : Nat) (a : Int), s ≤ a → a - n ≤ s → (∀ q, s ≤ q → q < a → P q = true) → P (s - 1) = false → skipB P n a = s
  | 0, a, h1, h2, h3, h4 => by show a = s; omega
  | n + 1, a, h1, h2, h3, h4 => by
    by_cases h : a = s
    · subst h; exact skipB_no h4
    · rw [skipB, if_pos (h3 (a - 1) (by omega) (by omega))]
      exact skipB_to n (a - 1) (by omega) (by omega) (fun q x y => h3 q x (by omega)) h4

theorem Sb_skipN (hN : ∀ q, N q = true → P q = false) : ∀ (n : Nat) (a : Int), Sb P n a = Sb P (n - (a - skipB N n a).toNat) (skipB N n a)
  | 0, a => by rw [skipB]; simp
  | n + 1, a => by
    rw [skipB]
    split
    · rename_i h
      have hge := skipB_le (P := N) n (a - 1)
      rw [Sb, hN _ h, Sb_skipN hN n (a - 1)]
      simp only [Bool.false_and, Bool.false_eq_true, if_false]
      rw [tn3 n hge]
    · rw [Int.sub_self]; rfl
theorem Sb_skipP : ∀ (n : Nat) (a : Int), P (a - 1) = true → P (a - n - 1) = false → Sb P n a = skipB P n a :: Sb P (n - (a - skipB P n a).toNat) (skipB P n a)
  | 0, a, h1, h2 => by simp [h1] at h2
  | n + 1, a, h1, h2 => by
    rw [skipB, if_pos h1, Sb, h1]
    cases h3 : P (a - 2) with
    | false =>
      have e1 : skipB P n (a - 1) = a - 1 := skipB_no (by rw [← h3]; congr 1; omega)
      rw [e1, show (a - (a - 1)).toNat = 1 by omega]
      simp
    | true =>
      have hle := skipB_le (P := P) n (a - 1)
      have ih := Sb_skipP n (a - 1) (by rw [← h3]; congr 1; omega) (by rw [← h2]; congr 1; omega)
      simp only [Bool.not_true, Bool.and_false, Bool.false_eq_true, if_false]
      rw [ih, tn3 n hle]
theorem fwdB_eq (hN : ∀ q, p ≤ q → q < e → N q = !P q) (hPp : P (p - 1) = false) (hN0 : ∀ q, N q = true → P q = false) : ∀ (k : Nat) (a : Int), p ≤ a → a ≤ e → fwdB P N p (k + 1) a = if k < (Sb P (a - p).toNat a).length then ((Sb P (a - p).toNat a).getD k 0, true) else (p, false)
  | k, a, h0, h1 => by
    rw [fwdB]
    have hle := skipB_le (P := N) (a - p).toNat a
    have hge := skipB_ge (P := N) (a - p).toNat a
    have hend := skipB_end (P := N) (a - p).toNat a
    rw [Sb_skipN hN0 (a - p).toNat a]
    generalize hs : skipB N (a - p).toNat a = s at *
    rw [tn4 hle]
    by_cases c : s ≤ p
    · rw [if_pos c, show (s - p).toNat = 0 by omega, Sb, if_neg (by simp)]
    · rw [if_neg c]
      have hPs : P (s - 1) = true := by
        have := hend (by omega)
        rw [hN (s - 1) (by omega) (by omega)] at this
        simpa using this
      have hSb := Sb_skipP (s - p).toNat s hPs (by rw [← hPp]; congr 1; omega)
      have hge2 := skipB_ge (P := P) (s - p).toNat s
      have hle2 := skipB_le (P := P) (s - p).toNat s
      rw [hSb]
      generalize skipB P (s - p).toNat s = t at *
      rw [tn4 hle2]
      cases k with
      | zero => rw [fwdB, if_pos (by simp)]; rfl
      | succ k =>
        rw [fwdB_eq hN hPp hN0 k t (by omega) (by omega)]
        simp

/-! the words -/
theorem Suf.len : ∀ {r : List Nat} {a : Int}, Suf P Pc e a r → a + r.length = e
  | [], a, h => by have : a = e := h; simp [this]
  | c :: r, a, ⟨_, h⟩ => by
    have := Suf.len h
    rw [List.length_cons]; omega
theorem lr_some (hPe : ∀ q, e ≤ q → P q = false) : ∀ (r : List Nat) (a s : Int), Suf P Pc e a r → ∃ r', Suf P Pc e (skipF P r.length a) r' ∧ r'.length ≤ r.length ∧ lr Pc 0 a (some s) r = (s, skipF P r.length a) :: lr Pc 0 (skipF P r.length a) none r'
  | [], a, s, h => ⟨[], h, Nat.le_refl _, by simp [lr_nil, skipF]⟩
  | c :: r, a, s, ⟨h1, h2⟩ => by
    rw [List.length_cons, skipF, lr_cons, ← h1]
    cases hp : P a with
    | true =>
      rw [if_pos rfl, if_pos rfl]
      obtain ⟨r', q1, q2, q3⟩ := lr_some hPe r (a + 1) s h2
      exact ⟨r', q1, Nat.le_succ_of_le q2, q3⟩
    | false =>
      rw [if_neg (by simp), if_neg (by simp)]
      refine ⟨c :: r, ⟨h1, h2⟩, Nat.le_refl _, ?_⟩
      rw [lr_cons, ← h1, hp]
      simp
theorem lr_none (hN : ∀ q, N q = true → P q = false) : ∀ (r : List Nat) (a : Int), Suf P Pc e a r → ∃ r', Suf P Pc e (skipF N r.length a) r' ∧ r'.length ≤ r.length ∧ lr Pc 0 a none r = lr Pc 0 (skipF N r.length a) none r'
  | [], a, h => ⟨[], h, Nat.le_refl _, rfl⟩
  | c :: r, a, ⟨h1, h2⟩ => by
    rw [List.length_cons, skipF]
    by_cases hp : N a = true
    · rw [if_pos hp, lr_cons, ← h1, hN a hp]
      obtain ⟨r', q1, q2, q3⟩ := lr_none hN r (a + 1) h2
      exact ⟨r', q1, Nat.le_succ_of_le q2, by simpa using q3⟩
    · rw [if_neg hp]
      exact ⟨c :: r, ⟨h1, h2⟩, Nat.le_refl _, rfl⟩
theorem words_eq (hN : ∀ q, p ≤ q → q < e → N q = !P q) (hPe : ∀ q, e ≤ q → P q = false) (hN0 : ∀ q, N q = true → P q = false) : ∀ (n : Nat) (r : List Nat) (a : Int), Suf P Pc e a r → p ≤ a → r.length ≤ n → wordsFrom P N e n a = lr Pc 0 a none r
  | 0, r, a, h, h0, hn => by
    have : r = [] := List.length_eq_zero_iff.mp (by omega)
    subst this
    rfl
  | n + 1, r, a, h, h0, hn => by
    have hlen := h.len
    rw [wordsFrom, show (e - a).toNat = r.length by omega]
    obtain ⟨r', q1, q2, q3⟩ := lr_none hN0 r a h
    have hge := skipF_ge (P := N) r.length a
    have hle := skipF_le (P := N) r.length a
    have hend := skipF_end (P := N) r.length a
    rw [q3]
    generalize skipF N r.length a = s at *
    have hl' := q1.len
    by_cases c : s ≥ e
    · rw [if_pos c]
      have : r' = [] := List.length_eq_zero_iff.mp (by omega)
      subst this
      rfl
    · rw [if_neg c]
      have hPs : P s = true := by
        have := hend (by omega)
        rw [hN s (by omega) (by omega)] at this
        simpa using this
      match r', q1, q2, hl' with
      | [], q1, q2, hl' => simp at hl'; omega
      | d :: r', q1, q2, hl' =>
        obtain ⟨q4, q5⟩ := q1
        rw [List.length_cons] at q2 hl'
        rw [lr_cons, ← q4, if_pos hPs]
        obtain ⟨r2, q6, q7, q8⟩ := lr_some hPe r' (s + 1) s q5
        dsimp only [Option.getD_none]
        rw [q8]
        have e1 : skipF P (e - s).toNat s = skipF P r'.length (s + 1) := by
          rw [show (e - s).toNat = r'.length + 1 by omega, skipF, if_pos hPs]
        rw [e1]
        have hge2 := skipF_ge (P := P) r'.length (s + 1)
        rw [words_eq hN hPe hN0 n r2 _ q6 (by omega) (by omega)]

/-! the word around a place -/
theorem bnd_some {s t at' : Int} (h1 : s ≤ at') (h2 : at' ≤ t) (h3 : s < t) (h4 : ∀ q, s ≤ q → q < t → P q = true) (h5 : P (s - 1) = false) (h6 : P t = false) (h7 : p ≤ s) (h8 : t ≤ e) : bnd P p e at' = some (s, t) := by
  unfold bnd
  rw [skipB_to (s := s) (at' - p).toNat at' h1 (by omega) (fun q x y => h4 q x (by omega)) h5, skipF_to (t := t) (e - at').toNat at' h2 (by omega) (fun q x y => h4 q (by omega) y) h6, if_pos h3]
theorem bnd_none {at' : Int} (h1 : P (at' - 1) = false) (h2 : P at' = false) : bnd P p e at' = none := by
  unfold bnd
  rw [skipB_no h1, skipF_no h2, if_neg (by omega)]
theorem around_eq (hPe : ∀ q, e ≤ q → P q = false) (at' : Int) (he : at' ≤ e) : ∀ (r : List Nat) (a : Int), Suf P Pc e a r → p ≤ a →
    (P (a - 1) = false → a ≤ at' → around (lr Pc 0 a none r) at' = bnd P p e at') ∧
    (∀ s, s < a → p ≤ s → s ≤ at' → P (s - 1) = false → (∀ q, s ≤ q → q < a → P q = true) → around (lr Pc 0 a (some s) r) at' = bnd P p e at')
  | [], a, h, hp => by
    have h : a = e := h
    refine ⟨fun h1 h2 => ?_, fun s h1 h2 h3 h4 h5 => ?_⟩
    · have : a = at' := by omega
      subst this
      rw [bnd_none h1 (hPe _ (by omega))]; rfl
    · rw [bnd_some h3 (by omega) h1 h5 h4 (hPe a (by omega)) h2 (by omega), lr_nil]
      unfold around
      simp
      omega
  | c :: r, a, ⟨h1, h2⟩, hp => by
    obtain ⟨i1, i2⟩ := around_eq hPe at' he r (a + 1) h2 (by omega)
    have hlen := h2.len
    rw [show a + 1 - 1 = a by omega] at i1
    refine ⟨fun h3 h4 => ?_, fun s h3 h4 h5 h6 h7 => ?_⟩
    · rw [lr_cons, ← h1]
      cases hq : P a with
      | true =>
        rw [if_pos rfl]
        exact i2 a (by omega) hp h4 h3 (fun q x y => by rw [show q = a by omega]; exact hq)
      | false =>
        rw [if_neg (by simp)]
        by_cases h : a = at'
        · subst h
          rw [bnd_none h3 hq]
          unfold around
          dsimp only
          rw [List.filter_eq_nil_iff.mpr]
          · rfl
          intro x hx
          have hx2 : x.1 ∈ (lr Pc 0 (a + 1) none r).map (·.1) := List.mem_map_of_mem hx
          rw [(lr_starts r (a + 1) h2).1 (by rw [show a + 1 - 1 = a by omega]; exact hq)] at hx2
          have := (St_ge _ _ _ hx2).1
          simp; omega
        · exact i1 hq (by omega)
    · rw [lr_cons, ← h1]
      cases hq : P a with
      | true =>
        rw [if_pos rfl]
        exact i2 s (by omega) h4 h5 h6 (fun q x y => by
          by_cases z : q = a
          · rw [z]; exact hq
          · exact h7 q x (by omega))
      | false =>
        rw [if_neg (by simp)]
        by_cases h : at' ≤ a
        · rw [bnd_some h5 h h3 h7 h6 hq h4 (by omega)]
          unfold around
          dsimp only
          rw [List.filter_cons, if_pos (by simp; omega)]
          simp
        · rw [← i1 hq (by omega)]
          unfold around
          dsimp only
          rw [List.filter_cons, if_neg (by simp; omega)]

/-! what is due -/
theorem due_eq (hN : ∀ q, p ≤ q → q < e → N q = !P q) (hPe : ∀ q, e ≤ q → P q = false) (hPp : P (p - 1) = false) (hN0 : ∀ q, N q = true → P q = false) {r : List Nat} (h : Suf P Pc e p r) {at' : Int} (h0 : p ≤ at') (h1 : at' ≤ e) (count : Int) :
    fwd P N p e at' count = due (lr Pc 0 p none r) p e at' count := by
  have hlen := h.len
  unfold fwd due
  by_cases hc : count ≥ 0
  · rw [if_pos hc, if_pos hc]
    by_cases hz : count = 0
    · subst hz; rw [if_pos rfl]; rfl
    · rw [if_neg hz]
      have hE : (((lr Pc 0 p none r).filter fun r => decide (r.2 > at')).map (·.2)) = En P (e - at').toNat at' := by
        rw [← En_filter at' (e - at').toNat (at' - p).toNat p (by omega), show (at' - p).toNat + (e - at').toNat = r.length by omega, ← (lr_ends hPe r p h).1, List.filter_map]
        rfl
      have hE2 : ((lr Pc 0 p none r).filter fun r => decide (r.2 > at')).length = (En P (e - at').toNat at').length := by rw [← hE, List.length_map]
      rw [hE2, hE]
      have hf := fwdF_eq hN hPe hN0 (count - 1).toNat at' h0 h1
      rw [show (count - 1).toNat + 1 = count.toNat by omega] at hf
      rw [hf]
      by_cases hk : (count - 1).toNat < (En P (e - at').toNat at').length
      · rw [if_pos hk, if_pos (by omega)]
      · rw [if_neg hk, if_neg (by omega)]
  · rw [if_neg hc, if_neg hc]
    have hS : (((lr Pc 0 p none r).filter fun r => decide (r.1 < at')).map (·.1)).reverse = Sb P (at' - p).toNat at' := by
      have h3 := St_filter (P := P) at' (e - at').toNat (at' - p).toNat p (by omega)
      rw [show (at' - p).toNat + (e - at').toNat = r.length by omega, ← (lr_starts r p h).1 hPp, List.filter_map] at h3
      have h4 := St_rev (P := P) (at' - p).toNat p
      rw [show p + ((at' - p).toNat : Int) = at' by omega] at h4
      rw [← h4, ← h3]
      rfl
    have hS2 : ((lr Pc 0 p none r).filter fun r => decide (r.1 < at')).length = (Sb P (at' - p).toNat at').length := by rw [← hS, List.length_reverse, List.length_map]
    rw [hS2, hS]
    have hf := fwdB_eq hN hPp hN0 (-count - 1).toNat at' h0 h1
    rw [show (-count - 1).toNat + 1 = (-count).toNat by omega] at hf
    rw [hf, show (0 - count - 1).toNat = (-count - 1).toNat by omega]
    by_cases hk : (-count - 1).toNat < (Sb P (at' - p).toNat at').length
    · rw [if_pos hk, if_pos (by omega)]
    · rw [if_neg hk, if_neg (by omega)]
end

/-- the signs of the law's texts -/
noncomputable def alph : List Nat := [97, 98, 48, 57, 90, 45, 95, 32, 46, 40, 41, 10]
noncomputable def kap (c : Int) : Str := (stdG c).getD ""
theorem alph_std : ∀ n ∈ alph, stdG (n : Int) = some (kap n) ∧ kap n ≠ "@" := by decide +kernel
theorem alph_w : ∀ n ∈ alph, strIn (kap n) "w" = strIn ⟨#[n]⟩ "abZ09" := by decide +kernel
theorem alph_s : ∀ n ∈ alph, strIn (kap n) "w_" = strIn ⟨#[n]⟩ "abZ09-_" := by decide +kernel
noncomputable def TextOk (t : Str) : Prop := (∀ n ∈ t.cps.toList, n ∈ alph) ∧ t.cps.size ≤ 30

theorem within_of {cs : List Int} {p q : Int} (h1 : p ≤ q) (h2 : q < p + cs.length) : within cs p q = true := decide_eq_true ⟨h1, h2⟩
theorem isOf_facts {cs : List Int} {p : Int} {κ : Int → Str} {kinds : Str} :
    (∀ q, p ≤ q → q < p + (cs.length : Int) → isOf cs p κ kinds true q = !isOf cs p κ kinds false q) ∧ (∀ q, p + (cs.length : Int) ≤ q → isOf cs p κ kinds false q = false) ∧ isOf cs p κ kinds false (p - 1) = false ∧ (∀ q, isOf cs p κ kinds true q = true → isOf cs p κ kinds false q = false) := by
  refine ⟨fun q h1 h2 => ?_, fun q h => ?_, ?_, fun q h => ?_⟩
  · unfold isOf
    rw [within_of h1 h2]
    simp
  · unfold isOf
    rw [show within cs p q = false from decide_eq_false (by omega)]; rfl
  · unfold isOf
    rw [show within cs p (p - 1) = false from decide_eq_false (by omega)]; rfl
  · unfold isOf at h ⊢
    rw [Bool.and_eq_true] at h
    simp at h
    simp [h]
theorem Suf.of {P : Int → Bool} {Pc : Nat → Bool} {e : Int} : ∀ (r : List Nat) (a : Int), a + r.length = e → (∀ (i : Nat) (n : Nat), r[i]? = some n → P (a + i) = Pc n) → Suf P Pc e a r
  | [], a, h, _ => by show a = e; rw [← h]; simp
  | c :: r, a, h, k => by
    refine ⟨by simpa using k 0 c rfl, Suf.of r (a + 1) (by rw [List.length_cons] at h; omega) fun i n hi => ?_⟩
    have := k (i + 1) n (by simpa using hi)
    rw [← this]
    congr 1
    omega
theorem codeAt_idx {t : Str} {p : Int} {i n : Nat} (h : t.cps.toList[i]? = some n) : within (codesOf t) p (p + i) = true ∧ codeAt (codesOf t) p (p + i) = n := by
  obtain ⟨hi, e⟩ := List.getElem?_eq_some_iff.mp h
  have hi' : i < t.cps.size := by simpa using hi
  have hw : within (codesOf t) p (p + i) = true := within_of (by omega) (by rw [codesOf_len]; omega)
  refine ⟨hw, ?_⟩
  rw [(codeAt_in hw).1, codesOf, List.getD_eq_getElem?_getD, List.getElem?_map, show (p + (i : Int) - p).toNat = i by omega, h]
  rfl
theorem suf_text {t : Str} (ht : TextOk t) {p : Int} {kinds signs : Str} (hk : ∀ n ∈ alph, strIn (kap n) kinds = strIn ⟨#[n]⟩ signs) :
    Suf (isOf (codesOf t) p kap kinds false) (fun c => strIn ⟨#[c]⟩ signs) (p + (codesOf t).length) p t.cps.toList := by
  refine Suf.of _ _ (by rw [codesOf_len]; simp) fun i n hi => ?_
  obtain ⟨h1, h2⟩ := codeAt_idx (p := p) hi
  unfold isOf
  rw [h1, h2]
  have := hk n (ht.1 n (List.mem_of_getElem? hi))
  rw [← this]
  simp

theorem lr_abs (Pc : Nat → Bool) (p : Int) (r : List Nat) : lr Pc p 0 none r = lr Pc 0 p none r := by rw [lr_shift, Int.add_zero]; rfl
theorem cmp_IB {vh : VH} {r r' : Int × Bool} (h : r = r') : cmpop vh .NotEq (avIB r) (avIB r') = some false := by
  subst h
  show (cmpEq vh (avIB r) (avIB r)).map (!·) = _
  have e1 : toPy vh 4 (avIB r) = some (.tuple [.int r.1, .bool r.2]) := rfl
  rw [cmpEq_same e1 e1 rfl]; rfl
noncomputable def dO : Option (Int × Int) → PyData
  | none => .none
  | some r => .tuple [.int r.1, .int r.2]
theorem toPy_O (vh : VH) (n : Nat) (o : Option (Int × Int)) : toPy vh (n + 1) (avO o) = some (dO o) := by
  cases o with
  | none => rfl
  | some r => exact toPy_II vh n r
theorem cmp_heard {vh : VH} {i j : Nat} {a b : Option (Int × Int)} (h1 : vh[i]? = some (.list [avO a, avO b])) (h2 : vh[j]? = some (.list [avO a, avO b])) : cmpop vh .Eq (.ref i) (.ref j) = some true := by
  show cmpEq vh (.ref i) (.ref j) = _
  have e : ∀ k, vh[k]? = some (.list [avO a, avO b]) → toPy vh 4 (.ref k) = some (.list [dO a, dO b]) := fun k h => by
    rw [toPy_ref _ h, toPys_cons (toPy_O vh _ a) (toPys_cons (toPy_O vh _ b) (show toPys vh _ [] = some [] from rfl))]; rfl
  exact cmpEq_same (e _ h1) (e _ h2) (by cases a <;> cases b <;> rfl)
theorem cmp_words {vh : VH} {i j : Nat} {rs : List (Int × Int)} (h1 : vh[i]? = some (.list (rs.map avII))) (h2 : vh[j]? = some (.list (rs.map avII))) : cmpop vh .Eq (.ref i) (.ref j) = some true := by
  show cmpEq vh (.ref i) (.ref j) = _
  exact cmpEq_same (toPy_pairs h1) (toPy_pairs h2) (shaped_pairs rs)
theorem lr_length (P : Nat → Bool) (p : Int) : ∀ (r : List Nat) (a : Int) (st : Option Int), (lr P p a st r).length ≤ r.length + 1
  | [], a, st => by rw [lr_nil]; cases st <;> simp
  | c :: r, a, st => by
    rw [lr_cons]
    have h1 := fun st => lr_length P p r (a + 1) st
    split
    · have := h1 (some (st.getD a)); rw [List.length_cons]; omega
    · cases st with
      | none => have := h1 none; dsimp only; rw [List.length_cons]; omega
      | some s => have := h1 none; dsimp only; rw [List.length_cons, List.length_cons]; omega

section
variable (w : World) {b : Nat} {vh : VH}
theorem moves_ok {V T : Nat} {t : Str} {p : Int} (h : Doc vh V T (codesOf t) p kap) (ht : TextOk t) (at' count : Int) (h0 : p ≤ at') (h1 : at' ≤ p + (codesOf t).length) :
    WC PP w (hd.heap_39 w.params) (b + 8) (.ref 386) [.ref V, .ref T, .str t, .int p, .int at', .int count] vh fun y vh' => y = .bool true ∧ ∃ e, vh' = vh ++ e := by
  refine WK.call ?_
  refine' wk_fun (dx := []) (dv := []) (ps := ["view", "table", "text", "place", "at", "count"]) ?ho ?hcd ?hbind ?hdv ?hnd ?hlen ?hloc ?hcell ?hco ?hgen ?hk ?hbody
  case ho => k_is
  case hcd => k_is
  case hbind => intro s vs X hl; obtain ⟨v0, v1, v2, v3, v4, v5, rfl⟩ := lst6 (l := vs) hl; exact kp_binds X fun S => rfl
  case hdv => exact fun W => .nil
  case hnd => decide
  case hlen => rfl
  case hloc => decide
  case hcell => decide
  case hco => rfl
  case hgen => rfl
  case hk => rfl
  dsimp only [List.zip, List.zipWith, List.map, List.append_eq, List.append, List.nil_append, List.cons_append]
  have hsz : t.cps.size ≤ 1000 := by have := ht.2; omega
  have hsz2 : t.length ≤ 1000000 := by show t.cps.size ≤ _; omega
  have hts : (t.length : Int) = (codesOf t).length := by rw [codesOf_len]; rfl
  refine wb_cons (ws_tupS ["words", "symbols"] (by rfl) (by rintro ⟨⟩ rfl; rfl) ?_)
  walk_at "go"
  refine we_callG (g_law_runs w) (k_law_runs w) (by rfl) (by rfl) (by rfl) ?_
  walk_at "go"
  refine WC.same' (runs_ok w t "abZ09" p hsz) ?_
  walk_at "go"
  refine we_callG (g_law_runs w) (k_law_runs w) (by rfl) (by rfl) (by rfl) ?_
  walk_at "go"
  refine WC.same' (runs_ok w t "abZ09-_" p hsz) ?_
  walk_at "go"
  refine ⟨_, rfl, rfl, ?_⟩
  refine wn_name (by rfl) (by rfl) (set_step (by walk_at "setfm") ?_)
  refine wn_name (by rfl) (by rfl) (set_step (by walk_at "setfm") ?_)
  refine wn_nil (th_next ?_)
  rw [lr_abs _ p, lr_abs _ p]
  generalize hws : lr (fun c => strIn ⟨#[c]⟩ "abZ09") 0 p none t.cps.toList = ws
  generalize hss : lr (fun c => strIn ⟨#[c]⟩ "abZ09-_") 0 p none t.cps.toList = ss
  have hwl : ws.length ≤ 2000 := by
    have := lr_length (fun c => strIn ⟨#[c]⟩ "abZ09") 0 t.cps.toList p none
    rw [hws] at this; simp at this; omega
  have hsl : ss.length ≤ 2000 := by
    have := lr_length (fun c => strIn ⟨#[c]⟩ "abZ09-_") 0 t.cps.toList p none
    rw [hss] at this; simp at this; omega
  have hD1 : Doc (vh ++ [AO.list (ws.map avII)] ++ [AO.list (ss.map avII)]) V T (codesOf t) p kap := h.left.left
  have hW1 : (vh ++ [AO.list (ws.map avII)] ++ [AO.list (ss.map avII)])[vh.length]? = some (.list (ws.map avII)) := get_left get_last
  have hS1 : (vh ++ [AO.list (ws.map avII)] ++ [AO.list (ss.map avII)])[(vh ++ [AO.list (ws.map avII)]).length]? = some (.list (ss.map avII)) := get_last
  have hp1 : ∃ e, vh ++ [AO.list (ws.map avII)] ++ [AO.list (ss.map avII)] = vh ++ e := ⟨_, List.append_assoc _ _ _⟩
  generalize vh ++ [AO.list (ws.map avII)] ++ [AO.list (ss.map avII)] = v1 at hD1 hW1 hS1 hp1 ⊢
  generalize (vh ++ [AO.list (ws.map avII)]).length = S at hS1 ⊢
  generalize vh.length = W at hW1 ⊢
  refine wb_cons (ws_tupS ["begin", "end"] (by rfl) (by rintro ⟨⟩ rfl; rfl) ?_)
  walk_at "go"
  refine ⟨_, rfl, rfl, ?_⟩
  refine wn_name (by rfl) (by rfl) (set_step (by walk_at "setfm") ?_)
  refine wn_name (by rfl) (by rfl) (set_step (by walk_at "setfm") ?_)
  refine wn_nil (th_next ?_)
  rw [hts]
  walk_at "go"
  refine we_callG (g_forward_word w) (k_forward_word w) (by rfl) (by rfl) (by rfl) ?_
  walk_at "go"
  refine WC.same (forward_word_ok w hD1 at' count) ?_
  refine we_callG (g_law_due w) (k_law_due w) (by rfl) (by rfl) (by rfl) ?_
  walk_at "go"
  refine WC.mono (due_ok w hW1 hwl p (p + (codesOf t).length) at' count) ?_
  rintro _ _ ⟨rfl, e1, rfl⟩
  refine ex_some (cmp_IB ?_) ?_
  · obtain ⟨q1, q2, q3, q4⟩ := isOf_facts (cs := codesOf t) (p := p) (κ := kap) (kinds := "w")
    rw [← hws]
    exact due_eq q1 q2 q3 q4 (suf_text ht alph_w) h0 h1 count
  have hD2 := hD1.left (e := e1)
  have hW2 := get_left (e := e1) hW1
  have hS2 := get_left (e := e1) hS1
  have hp2 : ∃ e, v1 ++ e1 = vh ++ e := by
    obtain ⟨e, rfl⟩ := hp1
    exact ⟨_, List.append_assoc _ _ _⟩
  generalize v1 ++ e1 = v2 at hD2 hW2 hS2 hp2 ⊢
  walk_at "go"
  refine we_callG (g_forward_symbol w) (k_forward_symbol w) (by rfl) (by rfl) (by rfl) ?_
  walk_at "go"
  refine WC.same (forward_symbol_ok w hD2 at' count) ?_
  refine we_callG (g_law_due w) (k_law_due w) (by rfl) (by rfl) (by rfl) ?_
  walk_at "go"
  refine WC.mono (due_ok w hS2 hsl p (p + (codesOf t).length) at' count) ?_
  rintro _ _ ⟨rfl, e2, rfl⟩
  refine ex_some (cmp_IB ?_) ?_
  · obtain ⟨q1, q2, q3, q4⟩ := isOf_facts (cs := codesOf t) (p := p) (κ := kap) (kinds := "w_")
    rw [← hss]
    exact due_eq q1 q2 q3 q4 (suf_text ht alph_s) h0 h1 count
  have hD3 := hD2.left (e := e2)
  have hW3 := get_left (e := e2) hW2
  have hS3 := get_left (e := e2) hS2
  have hp3 : ∃ e, v2 ++ e2 = vh ++ e := by
    obtain ⟨e, rfl⟩ := hp2
    exact ⟨_, List.append_assoc _ _ _⟩
  generalize v2 ++ e2 = v3 at hD3 hW3 hS3 hp3 ⊢
  walk_at "go"
  refine we_callG (g_word_bounds w) (k_word_bounds w) (by rfl) (by rfl) (by rfl) ?_
  walk_at "go"
  refine WC.same (word_bounds_ok w hD3 at') ?_
  walk_at "go"
  refine we_callG (g_symbol_bounds w) (k_symbol_bounds w) (by rfl) (by rfl) (by rfl) ?_
  walk_at "go"
  refine WC.same (symbol_bounds_ok w hD3 at') ?_
  walk_at "go"
  have hbw : bnd (isOf (codesOf t) p kap "w" false) p (p + (codesOf t).length) at' = around ws at' := by
    obtain ⟨q1, q2, q3, q4⟩ := isOf_facts (cs := codesOf t) (p := p) (κ := kap) (kinds := "w")
    rw [← hws]
    exact ((around_eq q2 at' h1 _ _ (suf_text ht alph_w) (Int.le_refl p)).1 q3 h0).symm
  have hbs : bnd (isOf (codesOf t) p kap "w_" false) p (p + (codesOf t).length) at' = around ss at' := by
    obtain ⟨q1, q2, q3, q4⟩ := isOf_facts (cs := codesOf t) (p := p) (κ := kap) (kinds := "w_")
    rw [← hss]
    exact ((around_eq q2 at' h1 _ _ (suf_text ht alph_s) (Int.le_refl p)).1 q3 h0).symm
  rw [hbw, hbs]
  have hH3 : (v3 ++ [AO.list [avO (around ws at'), avO (around ss at')]])[v3.length]? = some (.list [avO (around ws at'), avO (around ss at')]) := get_last
  have hD4 := hD3.left (e := [AO.list [avO (around ws at'), avO (around ss at')]])
  have hW4 := get_left (e := [AO.list [avO (around ws at'), avO (around ss at')]]) hW3
  have hS4 := get_left (e := [AO.list [avO (around ws at'), avO (around ss at')]]) hS3
  have hp4 : ∃ e, v3 ++ [AO.list [avO (around ws at'), avO (around ss at')]] = vh ++ e := by
    obtain ⟨e, rfl⟩ := hp3
    exact ⟨_, List.append_assoc _ _ _⟩
  generalize v3 ++ [AO.list [avO (around ws at'), avO (around ss at')]] = v4 at hH3 hD4 hW4 hS4 hp4 ⊢
  generalize v3.length = H at hH3 ⊢
  refine we_callG (g_law_around w) (k_law_around w) (by rfl) (by rfl) (by rfl) ?_
  walk_at "go"
  refine WC.mono (around_ok w hW4 hwl at') ?_
  rintro _ _ ⟨rfl, e4, rfl⟩
  walk_at "go"
  refine we_callG (g_law_around w) (k_law_around w) (by rfl) (by rfl) (by rfl) ?_
  walk_at "go"
  refine WC.mono (around_ok w (get_left hS4) hsl at') ?_
  rintro _ _ ⟨rfl, e5, rfl⟩
  walk_at "go"
  refine ex_some (cmp_heard (get_left (get_left (get_left hH3))) get_last) ?_
  walk_at "go"
  have hD5 := ((hD4.left (e := e4)).left (e := e5)).left (e := [AO.list [avO (around ws at'), avO (around ss at')]])
  refine we_callG (g_all_words w) (k_all_words w) (by rfl) (by rfl) (by rfl) ?_
  walk_at "go"
  refine WC.same' (all_words_ok w hD5) ?_
  walk_at "go"
  refine ex_some (cmp_words (rs := ws) ?_ (get_left (get_left (get_left (get_left hW4))))) ?_
  · obtain ⟨q1, q2, q3, q4⟩ := isOf_facts (cs := codesOf t) (p := p) (κ := kap) (kinds := "w")
    rw [words_eq q1 q2 q4 _ _ _ (suf_text ht alph_w) (Int.le_refl p) (by rw [codesOf_len]; simp), hws]
    exact get_last
  walk_at "go"
  obtain ⟨e, rfl⟩ := hp4
  exact ⟨_, by rw [List.append_assoc, List.append_assoc, List.append_assoc, List.append_assoc]⟩
end

noncomputable def isFix : AO → Bool
  | .inst _ _ => true
  | .ns _ => true
  | .idict _ => true
  | .code _ => true
  | _ => false
/-- nothing that stands fast lies in S -/
noncomputable def Loose (v : VH) (S : Nat → Prop) : Prop := ∀ i o, S i → v[i]? = some o → isFix o = false
theorem Kp.fix {S : Nat → Prop} {v v' : VH} (K : Kp S v v') (h : Loose v S) {i : Nat} {o : AO} (e : v[i]? = some o) (hf : isFix o = true) : v'[i]? = some o := K.get i o (fun z => by rw [h i o z e] at hf; cases hf) e
theorem SAt.fix {S : Nat → Prop} {v v' : VH} {s : Nat} {k : Str} (h : SAt v s k) (K : Kp S v v') (L : Loose v S) : SAt v' s k := by
  obtain ⟨d, m, f, h1, h2⟩ := h
  exact ⟨d, m, f, K.fix L h1 rfl, K.fix L h2 rfl⟩
theorem TAt.fix {S : Nat → Prop} {v v' : VH} {T : Nat} {g : Int → Option Str} (h : TAt v T g) (K : Kp S v v') (L : Loose v S) : TAt v' T g := by
  obtain ⟨d, r, kvs, h1, h2, h3, h4⟩ := h
  refine ⟨d, r, kvs, K.fix L h1 rfl, K.fix L h2 rfl, K.fix L h3 rfl, fun c k hc => ?_⟩
  obtain ⟨s, h5, h6⟩ := h4 c k hc
  exact ⟨s, h5, h6.fix K L⟩
/-- the table of a def's own codes -/
structure TabG (v : VH) (t : Nat) (q : Str) : Prop where
  out : ∃ ks, v[t]? = some (.tab 388 ks) ∧ ∀ l c, match tabFind ks l c with | none => True | some none => False | some (some k) => v[k]? = some (.code q)
theorem TabG.kp {S : Nat → Prop} {v v' : VH} {t : Nat} {q : Str} (h : TabG v t q) (K : Kp S v v') (L : Loose v S) (ht : ¬ S t) : TabG v' t q := by
  obtain ⟨ks, h1, h2⟩ := h
  refine ⟨ks, K.get _ _ ht h1, fun l c => ?_⟩
  have := h2 l c
  split at this
  · trivial
  · exact this
  · exact K.fix L this rfl
theorem tabFind_snoc (ks : List (Nat × Nat × Option Nat)) (l c l' c' : Nat) (o : Option Nat) : tabFind (ks ++ [(l, c, o)]) l' c' = (tabFind ks l' c').or (if (l == l' && c == c') = true then some o else none) := by
  unfold tabFind
  rw [List.find?_append]
  cases List.find? (fun e => e.1 == l' && e.2.1 == c') ks with
  | some e => rfl
  | none =>
    rw [List.find?_cons]
    dsimp only
    cases (l == l' && c == c') <;> rfl
section
variable {prog : Program} {w : World} {K : Frag} {b : Nat} {c : Cx} {fm : Fm} {vh : VH} {pos : Pos} {Φ : AV → VH → Prop}
theorem we_lamG {params : Arguments} {body : Expr} {sc : Scope} {t : Nat} (cl : List (Str × Nat)) (hcode : c.code = .ref 390) (hhd : ∀ h, K.In h → CodeHd h 390 388) (hdef : ∀ env, defaultsOf params env = ([], [])) (hcl : closA c sc.names [] = some cl)
    (hT : TabG vh t (c.qual ++ "<lambda>")) (h : ∀ k v', Kp (fun i => i = t) vh v' → v'[k]? = some (.code (c.qual ++ "<lambda>")) → TabG v' t (c.qual ++ "<lambda>") → Φ (.lam params body sc cl (c.qual ++ "<lambda>") k) v') : WE prog w K b c (.Lambda params body sc pos) fm vh Φ := by
  obtain ⟨ks, h1, h2⟩ := hT
  have h3 := h2 pos.line pos.col
  have htl : t < vh.length := (List.getElem?_eq_some_iff.mp h1).1
  cases hf : tabFind ks pos.line pos.col with
  | none =>
    have hK : Kp (fun i => i = t) vh (vh.set t (.tab 388 (ks ++ [(pos.line, pos.col, some vh.length)])) ++ [.code (c.qual ++ "<lambda>")]) := (Kp.set (S := fun i => i = t) rfl).trans Kp.left
    have hlast : (vh.set t (.tab 388 (ks ++ [(pos.line, pos.col, some vh.length)])) ++ [AO.code (c.qual ++ "<lambda>")])[vh.length]? = some (.code (c.qual ++ "<lambda>")) := by
      have := get_last (vh := vh.set t (.tab 388 (ks ++ [(pos.line, pos.col, some vh.length)]))) (o := .code (c.qual ++ "<lambda>")) (r := [])
      rw [List.length_set] at this
      exact this
    refine we_lam hcode hhd hdef hcl h1 hf (h _ _ hK hlast ⟨_, get_left (get_hit h1), fun l c' => ?_⟩)
    rw [tabFind_snoc]
    have h4 := h2 l c'
    cases q : tabFind ks l c' with
    | none =>
      rw [Option.none_or]
      by_cases z : (pos.line == l && pos.col == c') = true
      · rw [if_pos z]; exact hlast
      · rw [if_neg z]; trivial
    | some o =>
      rw [q] at h4
      rw [Option.some_or]
      cases o with
      | none => exact h4
      | some k =>
        dsimp only at h4 ⊢
        have hne : t ≠ k := fun z => by rw [← z, h1] at h4; cases h4
        exact get_left (get_ne hne h4)
  | some o =>
    rw [hf] at h3
    cases o with
    | none => exact h3.elim
    | some k => exact we_lamHit hcode hhd hdef hcl h1 hf (h k vh Kp.refl h3 ⟨ks, h1, h2⟩)
end
/-- what stands while a skip is judged -/
structure SB (v : VH) (V T t D D0 l n : Nat) (cs : List Int) (p : Int) (q : Str) (o1 o2 o3 o4 : Option AV) : Prop where
  view : ∃ d, v[V]? = some (.inst 334 d) ∧ v[d]? = some (.ns [("codes", .ref l), ("place", .int p)])
  codes : v[l]? = some (.list (cs.map .int))
  table : TAt v T stdG
  deck : DeckAt v D D0
  tab : TabG v t q
  k1 : v[n]? = some (.cell o1)
  k2 : v[n + 1]? = some (.cell o2)
  k3 : v[n + 2]? = some (.cell o3)
  k4 : v[n + 3]? = some (.cell o4)
  ne : l ≠ D ∧ l ≠ D0
section
variable {v v' : VH} {V T t D D0 l n : Nat} {cs : List Int} {p : Int} {q : Str} {o1 o2 o3 o4 : Option AV}
theorem DeckAt.lists (h : DeckAt v D D0) : (∃ xs, v[D]? = some (.list xs)) ∧ ∃ xs, v[D0]? = some (.list xs) := by
  obtain ⟨xs, m, k, h1, h2, h3, h4⟩ := h
  exact ⟨⟨_, h2⟩, ⟨_, h3⟩⟩
theorem SB.view_fix {S : Nat → Prop} (x : SB v V T t D D0 l n cs p q o1 o2 o3 o4) (K : Kp S v v') (L : Loose v S) : ∃ d, v'[V]? = some (.inst 334 d) ∧ v'[d]? = some (.ns [("codes", .ref l), ("place", .int p)]) := by
  obtain ⟨d, h1, h2⟩ := x.view
  exact ⟨d, K.fix L h1 rfl, K.fix L h2 rfl⟩
theorem loose_none {v : VH} : Loose v (fun _ => False) := fun _ _ h => h.elim
theorem DeckAt.app {e : VH} (h : DeckAt v D D0) : DeckAt (v ++ e) D D0 := by
  obtain ⟨xs, m, k, h1, h2, h3, h4⟩ := h
  exact ⟨xs, m, k, h1, get_left h2, get_left h3, h4⟩
theorem SB.app {e : VH} (x : SB v V T t D D0 l n cs p q o1 o2 o3 o4) : SB (v ++ e) V T t D D0 l n cs p q o1 o2 o3 o4 :=
  ⟨x.view_fix Kp.left loose_none, get_left x.codes, x.table.left, x.deck.app, x.tab.kp Kp.left loose_none id, get_left x.k1, get_left x.k2, get_left x.k3, get_left x.k4, x.ne⟩
theorem DeckAt.loose (h : DeckAt v D D0) : Loose v (fun i => i = D ∨ i = D0) := fun i o hi e => by
  obtain ⟨⟨xs, h1⟩, ⟨ys, h2⟩⟩ := h.lists
  rcases hi with rfl | rfl
  · rw [h1] at e; cases e; rfl
  · rw [h2] at e; cases e; rfl
theorem DeckAt.nl (h : DeckAt v D D0) {i : Nat} {o : AO} (e : v[i]? = some o) (ho : ∀ xs, o ≠ .list xs) : ¬ (i = D ∨ i = D0) := fun hi => by
  obtain ⟨⟨xs, h1⟩, ⟨ys, h2⟩⟩ := h.lists
  rcases hi with rfl | rfl
  · rw [h1] at e; cases e; exact ho _ rfl
  · rw [h2] at e; cases e; exact ho _ rfl
theorem SB.drw (x : SB v V T t D D0 l n cs p q o1 o2 o3 o4) (hd : DeckAt v' D D0) (K : Kp (fun i => i = D ∨ i = D0) v v') : SB v' V T t D D0 l n cs p q o1 o2 o3 o4 := by
  have L := x.deck.loose
  have c : ∀ {i : Nat} {o : Option AV}, v[i]? = some (AO.cell o) → v'[i]? = some (AO.cell o) := fun {i o} e => K.get _ _ (x.deck.nl e (by nofun)) e
  refine ⟨x.view_fix K L, K.get _ _ (fun z => z.elim x.ne.1 x.ne.2) x.codes, x.table.fix K L, hd, ?_, c x.k1, c x.k2, c x.k3, c x.k4, x.ne⟩
  obtain ⟨ks, h1, h2⟩ := x.tab
  exact x.tab.kp K L (x.deck.nl h1 (by nofun))
theorem SB.lamb (x : SB v V T t D D0 l n cs p q o1 o2 o3 o4) (hT : TabG v' t q) (K : Kp (fun i => i = t) v v') : SB v' V T t D D0 l n cs p q o1 o2 o3 o4 := by
  obtain ⟨ks, h1, h2⟩ := x.tab
  have L : Loose v (fun i => i = t) := fun i o hi e => by
    subst hi; rw [h1] at e; cases e; rfl
  have c : ∀ {i : Nat} {o : AO}, v[i]? = some o → (∀ P ks, o ≠ AO.tab P ks) → v'[i]? = some o := fun {i o} e ho => K.get _ _ (fun z => by subst z; rw [h1] at e; cases e; exact ho _ _ rfl) e
  refine ⟨x.view_fix K L, c x.codes (by nofun), x.table.fix K L, ?_, hT, c x.k1 (by nofun), c x.k2 (by nofun), c x.k3 (by nofun), c x.k4 (by nofun), x.ne⟩
  obtain ⟨xs, m, k, g1, g2, g3, g4⟩ := x.deck
  exact ⟨xs, m, k, g1, c g2 (by nofun), c g3 (by nofun), g4⟩
theorem SB.setc (x : SB v V T t D D0 l n cs p q o1 o2 o3 o4) {i : Nat} {o o' : Option AV} (hi : v[i]? = some (.cell o)) :
    (∃ d, (v.set i (.cell o'))[V]? = some (.inst 334 d) ∧ (v.set i (.cell o'))[d]? = some (.ns [("codes", .ref l), ("place", .int p)])) ∧ (v.set i (.cell o'))[l]? = some (.list (cs.map .int)) ∧ TAt (v.set i (.cell o')) T stdG ∧ DeckAt (v.set i (.cell o')) D D0 ∧ TabG (v.set i (.cell o')) t q := by
  have K : Kp (fun j => j = i) v (v.set i (.cell o')) := Kp.set rfl
  have L : Loose v (fun j => j = i) := fun j o hj e => by
    subst hj; rw [hi] at e; cases e; rfl
  have c : ∀ {j : Nat} {o : AO}, v[j]? = some o → (∀ z, o ≠ AO.cell z) → (v.set i (.cell o'))[j]? = some o := fun {j o} e ho => K.get _ _ (fun z => by subst z; rw [hi] at e; cases e; exact ho _ rfl) e
  obtain ⟨xs, m, k, g1, g2, g3, g4⟩ := x.deck
  obtain ⟨ks, h1, h2⟩ := id x.tab
  exact ⟨x.view_fix K L, c x.codes (by nofun), x.table.fix K L, ⟨xs, m, k, g1, c g2 (by nofun), c g3 (by nofun), g4⟩, x.tab.kp K L (fun z => by rw [z, hi] at h1; cases h1)⟩
theorem SB.set1 (x : SB v V T t D D0 l n cs p q o1 o2 o3 o4) {o' : Option AV} : SB (v.set n (.cell o')) V T t D D0 l n cs p q o' o2 o3 o4 := by
  obtain ⟨a1, a2, a3, a4, a5⟩ := x.setc (o' := o') x.k1
  exact ⟨a1, a2, a3, a4, a5, get_hit x.k1, get_ne (by omega) x.k2, get_ne (by omega) x.k3, get_ne (by omega) x.k4, x.ne⟩
theorem SB.set2 (x : SB v V T t D D0 l n cs p q o1 o2 o3 o4) {o' : Option AV} : SB (v.set (n + 1) (.cell o')) V T t D D0 l n cs p q o1 o' o3 o4 := by
  obtain ⟨a1, a2, a3, a4, a5⟩ := x.setc (o' := o') x.k2
  exact ⟨a1, a2, a3, a4, a5, get_ne (by omega) x.k1, get_hit x.k2, get_ne (by omega) x.k3, get_ne (by omega) x.k4, x.ne⟩
theorem SB.set3 (x : SB v V T t D D0 l n cs p q o1 o2 o3 o4) {o' : Option AV} : SB (v.set (n + 2) (.cell o')) V T t D D0 l n cs p q o1 o2 o' o4 := by
  obtain ⟨a1, a2, a3, a4, a5⟩ := x.setc (o' := o') x.k3
  exact ⟨a1, a2, a3, a4, a5, get_ne (by omega) x.k1, get_ne (by omega) x.k2, get_hit x.k3, get_ne (by omega) x.k4, x.ne⟩
theorem SB.set4 (x : SB v V T t D D0 l n cs p q o1 o2 o3 o4) {o' : Option AV} : SB (v.set (n + 3) (.cell o')) V T t D D0 l n cs p q o1 o2 o3 o' := by
  obtain ⟨a1, a2, a3, a4, a5⟩ := x.setc (o' := o') x.k4
  exact ⟨a1, a2, a3, a4, a5, get_ne (by omega) x.k1, get_ne (by omega) x.k2, get_ne (by omega) x.k3, get_hit x.k4, x.ne⟩
theorem SB.doc {t' : Str} (x : SB v V T t D D0 l n (codesOf t') p q o1 o2 o3 o4) (ht : TextOk t') : Doc v V T (codesOf t') p kap := by
  obtain ⟨d, h1, h2⟩ := x.view
  refine ⟨⟨d, l, h1, h2, x.codes, by rw [codesOf_len]; have := ht.2; omega⟩, stdG, x.table, fun c hc => ?_⟩
  obtain ⟨m, hm, rfl⟩ := List.mem_map.mp hc
  obtain ⟨e1, e2⟩ := alph_std m (ht.1 m hm)
  exact ⟨e1, e2, by omega⟩
end
section
variable (w : World)
theorem chd : ∀ h, (hd.heap_39 w.params).In h → CodeHd h 390 388 := fun h X => ⟨_, _, _, _, _, _, _, _, _, X 390 _ (by k_is), rfl, rfl, rfl, rfl, rfl, rfl, rfl, rfl, by decide⟩
end

/-- what stands in the law between the judgements -/
structure S0 (v : VH) (V T t D D0 l : Nat) (cs : List Int) (p : Int) (q : Str) : Prop where
  view : ∃ d, v[V]? = some (.inst 334 d) ∧ v[d]? = some (.ns [("codes", .ref l), ("place", .int p)])
  codes : v[l]? = some (.list (cs.map .int))
  table : TAt v T stdG
  deck : DeckAt v D D0
  tab : TabG v t q
  ne : l ≠ D ∧ l ≠ D0
structure SX (vh v : VH) (V T t D D0 l n : Nat) (cs : List Int) (p : Int) (q : Str) (o1 o2 o3 o4 : Option AV) : Prop where
  sb : SB v V T t D D0 l n cs p q o1 o2 o3 o4
  kq : Kp (fun i => n ≤ i ∨ i = D ∨ i = D0 ∨ i = t) vh v
section
variable {vh v v' : VH} {V T t D D0 l n : Nat} {cs : List Int} {p : Int} {q : Str} {o1 o2 o3 o4 : Option AV}
theorem S0.start (x : S0 vh V T t D D0 l cs p q) : SX vh (vh ++ [.cell none, .cell none, .cell none, .cell none]) V T t D D0 l vh.length cs p q none none none none := by
  obtain ⟨d, h1, h2⟩ := x.view
  refine ⟨⟨⟨d, get_left h1, get_left h2⟩, get_left x.codes, x.table.left, x.deck.app, x.tab.kp Kp.left loose_none id, get_last, get_app1, get_app2, ?_, x.ne⟩, Kp.left⟩
  rw [List.getElem?_append_right (by omega)]; simp
theorem SX.done (x : SX vh v V T t D D0 l vh.length cs p q o1 o2 o3 o4) : S0 v V T t D D0 l cs p q ∧ Kp (fun i => i = D ∨ i = D0 ∨ i = t) vh v :=
  ⟨⟨x.sb.view, x.sb.codes, x.sb.table, x.sb.deck, x.sb.tab, x.sb.ne⟩, ⟨x.kq.len, fun i o hi e => x.kq.get i o (fun z => z.elim (fun z => absurd (List.getElem?_eq_some_iff.mp e).1 (by omega)) hi) e⟩⟩
theorem SX.app {e : VH} (x : SX vh v V T t D D0 l n cs p q o1 o2 o3 o4) : SX vh (v ++ e) V T t D D0 l n cs p q o1 o2 o3 o4 := ⟨x.sb.app, x.kq.trans Kp.left⟩
theorem SX.drw (x : SX vh v V T t D D0 l n cs p q o1 o2 o3 o4) (hd : DeckAt v' D D0) (K : Kp (fun i => i = D ∨ i = D0) v v') : SX vh v' V T t D D0 l n cs p q o1 o2 o3 o4 :=
  ⟨x.sb.drw hd K, x.kq.trans (K.mono fun i hi => .inr (hi.elim .inl fun z => .inr (.inl z)))⟩
theorem SX.lamb (x : SX vh v V T t D D0 l n cs p q o1 o2 o3 o4) (hT : TabG v' t q) (K : Kp (fun i => i = t) v v') : SX vh v' V T t D D0 l n cs p q o1 o2 o3 o4 :=
  ⟨x.sb.lamb hT K, x.kq.trans (K.mono fun i hi => .inr (.inr (.inr hi)))⟩
theorem SX.set1 (x : SX vh v V T t D D0 l n cs p q o1 o2 o3 o4) {o' : Option AV} : SX vh (v.set n (.cell o')) V T t D D0 l n cs p q o' o2 o3 o4 := ⟨x.sb.set1, x.kq.trans (Kp.set (.inl (by omega)))⟩
theorem SX.set2 (x : SX vh v V T t D D0 l n cs p q o1 o2 o3 o4) {o' : Option AV} : SX vh (v.set (n + 1) (.cell o')) V T t D D0 l n cs p q o1 o' o3 o4 := ⟨x.sb.set2, x.kq.trans (Kp.set (.inl (by omega)))⟩
theorem SX.set3 (x : SX vh v V T t D D0 l n cs p q o1 o2 o3 o4) {o' : Option AV} : SX vh (v.set (n + 2) (.cell o')) V T t D D0 l n cs p q o1 o2 o' o4 := ⟨x.sb.set3, x.kq.trans (Kp.set (.inl (by omega)))⟩
theorem SX.set4 (x : SX vh v V T t D D0 l n cs p q o1 o2 o3 o4) {o' : Option AV} : SX vh (v.set (n + 3) (.cell o')) V T t D D0 l n cs p q o1 o2 o3 o' := ⟨x.sb.set4, x.kq.trans (Kp.set (.inl (by omega)))⟩
theorem DeckAt.ge {v : VH} (h : DeckAt v D D0) : ¬ (v.length = D ∨ v.length = D0) := fun z => by
  obtain ⟨⟨xs, h1⟩, ⟨ys, h2⟩⟩ := h.lists
  have := (List.getElem?_eq_some_iff.mp h1).1
  have := (List.getElem?_eq_some_iff.mp h2).1
  omega
end
theorem ws_cut {prog : Program} {w : World} {K : Frag} {b : Nat} {c : Cx} {fm : Fm} {vh : VH} {Ξ : AFl → Fm → VH → Prop} {α : Type} (st : α → Fm) (hp : α → VH) (I : α → Prop) {s0 : Stmt} {rest : List Stmt} (h : WS prog w K b c s0 fm vh fun f fm' vh' => f = .next ∧ ∃ a, I a ∧ FmLe (st a) fm' ∧ hp a = vh') (g : ∀ a, I a → WB prog w K b c rest (st a) (hp a) Ξ) : WS prog w K b c s0 fm vh (Then prog w K b c rest Ξ) := by
  obtain ⟨f, fm', vh', h1, rfl, a, h2, h3, rfl⟩ := h
  exact ⟨_, _, _, h1, th_next (WB.weak h3 (g a h2))⟩
noncomputable def KS : List (Str × Str) := [("w", "abZ09"), ("w_", "abZ09-_"), (" ", " \n"), (". ", ". \n"), ("()", "()")]
theorem KS_ok : ∀ ks ∈ KS, ∀ n ∈ alph, strIn (kap n) ks.1 = strIn ⟨#[n]⟩ ks.2 := by decide +kernel
theorem KS_get (i : Nat) (h : i < 5) : ∃ K sg, ([.str "w", .str "w_", .str " ", .str ". ", .str "()"] : List AV)[i]? = some (.str K) ∧ (K, sg) ∈ KS := by
  match i, h with
  | 0, _ => exact ⟨_, _, rfl, .head _⟩
  | 1, _ => exact ⟨_, _, rfl, .tail _ (.head _)⟩
  | 2, _ => exact ⟨_, _, rfl, .tail _ (.tail _ (.head _))⟩
  | 3, _ => exact ⟨_, _, rfl, .tail _ (.tail _ (.tail _ (.head _)))⟩
  | 4, _ => exact ⟨_, _, rfl, .tail _ (.tail _ (.tail _ (.tail _ (.head _))))⟩
noncomputable def SD : List (PyData × PyData) := [(.str "w", .str "abZ09"), (.str "_", .str "-_"), (.str " ", .str " \n"), (.str ".", .str "."), (.str "(", .str "("), (.str ")", .str ")")]
noncomputable def dG (x : AV) : Option AV := x.str?.bind fun q => (PySem.Spec.lookup (PyData.str q) SD).bind fun d => match d with | .str r => some (.str r) | _ => none
theorem KS_asc : ∀ ks ∈ KS, ks.1.cps.all (· < 128) = true ∧ ([] : List AV).length + ks.1.cps.size ≤ 1000000 := by decide +kernel
theorem KS_cases {M : Str × Str → Prop} (h1 : M ("w", "abZ09")) (h2 : M ("w_", "abZ09-_")) (h3 : M (" ", " \n")) (h4 : M (". ", ". \n")) (h5 : M ("()", "()")) : ∀ ks ∈ KS, M ks := by
  intro ks h
  rcases List.mem_cons.mp h with rfl | h
  · exact h1
  rcases List.mem_cons.mp h with rfl | h
  · exact h2
  rcases List.mem_cons.mp h with rfl | h
  · exact h3
  rcases List.mem_cons.mp h with rfl | h
  · exact h4
  rcases List.mem_cons.mp h with rfl | h
  · exact h5
  · cases h
noncomputable def SDok (x : AV) : Prop := ∃ q r, x = .str q ∧ PySem.Spec.lookup (PyData.str q) SD = some (.str r) ∧ dG x = some (.str r)
theorem one_mem {M : AV → Prop} {x : AV} (h : M x) : ∀ y ∈ [x], M y := fun y hy => (List.mem_singleton.mp hy) ▸ h
theorem two_mem {M : AV → Prop} {x z : AV} (h : M x) (g : M z) : ∀ y ∈ [x, z], M y := fun y hy => by
  rcases List.mem_cons.mp hy with rfl | hy
  · exact h
  · exact one_mem g y hy
theorem KS_elem : ∀ ks ∈ KS, ∀ x ∈ strItems ks.1, SDok x :=
  KS_cases (one_mem ⟨"w", "abZ09", rfl, rfl, rfl⟩) (two_mem ⟨"w", "abZ09", rfl, rfl, rfl⟩ ⟨"_", "-_", rfl, rfl, rfl⟩) (one_mem ⟨" ", " \n", rfl, rfl, rfl⟩) (two_mem ⟨".", ".", rfl, rfl, rfl⟩ ⟨" ", " \n", rfl, rfl, rfl⟩) (two_mem ⟨"(", "(", rfl, rfl, rfl⟩ ⟨")", ")", rfl, rfl, rfl⟩)
theorem KS_join : ∀ ks ∈ KS, ∃ ys : List Str, (strItems ks.1).filterMap dG = ys.map AV.str ∧ Builtin.Str.glued "" ys = ks.2 ∧ (ys.map (·.length)).sum + ys.length * 64 ≤ 16777216 :=
  KS_cases ⟨["abZ09"], rfl, rfl, by decide⟩ ⟨["abZ09", "-_"], rfl, rfl, by decide⟩ ⟨[" \n"], rfl, rfl, by decide⟩ ⟨[".", " \n"], rfl, rfl, by decide⟩ ⟨["(", ")"], rfl, rfl, by decide⟩
noncomputable def SH : List (Str × Str × Bool) := [("a-z", "ab", false), ("^a-b9", "ab9", true), ("\\-a", "-a", false), ("^ \n", " \n", true), ("0-9A-Z_", "09Z_", false)]
noncomputable def rsOf (x : Str × Str × Bool) : List (Int × Int) := cosRun (codesOf x.1) (codesOf x.1).length (if x.2.2 = true then 1 else 0)
theorem SH_ok1 : ∀ x ∈ SH, decide ((codesOf x.1).take 1 = [94]) = x.2.2 := by decide +kernel
theorem SH_ok2 : ∀ x ∈ SH, szR (rsOf x) ≤ 900000 := by decide +kernel
theorem SH_ok3 : ∀ x ∈ SH, ∀ r ∈ rsOf x, Builtin.Range.small r.1 (r.2 + 1) 1 = true := by decide +kernel
theorem SH_ok4 : ∀ x ∈ SH, ∀ n ∈ alph, inR (rsOf x) n = strIn ⟨#[n]⟩ x.2.1 := by decide +kernel
theorem SH_ok5 : ∀ x ∈ SH, x.1.cps.all (· < 128) = true ∧ x.1.cps.size ≤ 100 := by decide +kernel
theorem SH_get (i : Nat) (h : i < 5) : ∃ sh sg isn, ([.tup [.str "a-z", .str "ab", .bool false], .tup [.str "^a-b9", .str "ab9", .bool true], .tup [.str "\\-a", .str "-a", .bool false], .tup [.str "^ \n", .str " \n", .bool true], .tup [.str "0-9A-Z_", .str "09Z_", .bool false]] : List AV)[i]? = some (.tup [.str sh, .str sg, .bool isn]) ∧ (sh, sg, isn) ∈ SH := by
  match i, h with
  | 0, _ => exact ⟨_, _, _, rfl, .head _⟩
  | 1, _ => exact ⟨_, _, _, rfl, .tail _ (.head _)⟩
  | 2, _ => exact ⟨_, _, _, rfl, .tail _ (.tail _ (.head _))⟩
  | 3, _ => exact ⟨_, _, _, rfl, .tail _ (.tail _ (.tail _ (.head _)))⟩
  | 4, _ => exact ⟨_, _, _, rfl, .tail _ (.tail _ (.tail _ (.tail _ (.head _))))⟩
noncomputable def ordG : AV → Option AV
  | .str s => s.cps[0]?.map fun (n : Nat) => AV.int n
  | _ => none
theorem ordItems (s : Str) : (strItems s).filterMap ordG = (codesOf s).map AV.int := by
  unfold strItems codesOf
  induction s.cps.toList with
  | nil => rfl
  | cons c r ih => rw [List.map_cons, List.filterMap_cons, List.map_cons, List.map_cons, ← ih]; rfl
theorem strItems_len (s : Str) : (strItems s).length = s.cps.size := by unfold strItems; simp
theorem skipTo_congr {P Q : Int → Bool} (h : ∀ q, P q = Q q) (a l b e : Int) : skipTo P a l b e = skipTo Q a l b e := by
  rw [show P = Q from funext h]
theorem isOf_pk {tx : Str} (ht : TextOk tx) {p : Int} {K sg : Str} (hk : ∀ n ∈ alph, strIn (kap n) K = strIn ⟨#[n]⟩ sg) (tr : Bool) (q : Int) : isOf (codesOf tx) p kap K tr q = pk tx p (fun c => strIn ⟨#[c]⟩ sg != tr) q := by
  unfold isOf pk
  cases hw : within (codesOf tx) p q with
  | false => rfl
  | true =>
    obtain ⟨-, h2⟩ := codeAt_in hw
    obtain ⟨m, hm, e⟩ := List.mem_map.mp h2
    rw [← e, hk m (ht.1 m hm)]
    simp

section
variable (w : World) {b : Nat} {vh : VH}
theorem skips_ok {V T t D D0 l : Nat} {tx : Str} {p at' : Int} (hs : S0 vh V T t D D0 l (codesOf tx) p ("_law_skips_right" ++ ".<locals>." ++ "<lambda>")) (ht : TextOk tx) (h0 : p ≤ at') (h1 : at' ≤ p + tx.cps.size) :
    WC PP w (hd.heap_39 w.params) (b + 8) (.ref 391) [.ref D, .ref V, .ref T, .str tx, .int p, .int at'] vh fun y vh' => y = .bool true ∧ S0 vh' V T t D D0 l (codesOf tx) p ("_law_skips_right" ++ ".<locals>." ++ "<lambda>") ∧ Kp (fun i => i = D ∨ i = D0 ∨ i = t) vh vh' := by
  refine WK.call ?_
  refine' wk_funC (cn := ["signs", "is_turned_round", "is_not", "codes"]) (co := [.cell none, .cell none, .cell none, .cell none]) (fm0 := [("deck", some (.ref D)), ("view", some (.ref V)), ("table", some (.ref T)), ("text", some (.str tx)), ("place", some (.int p)), ("at", some (.int at'))]) (cl := [("signs", vh.length), ("is_turned_round", vh.length + 1), ("is_not", vh.length + 2), ("codes", vh.length + 3)]) (dx := []) (dv := []) (ps := ["deck", "view", "table", "text", "place", "at"]) ?ho ?hcd ?hbind ?hdv ?hnd ?hlen ?hloc ?hcs ?hcn ?hck ?hco ?hgen ?hk ?hcl ?hfm ?hob ?hbody
  case ho => k_is
  case hcd => k_is
  case hbind => intro s vs X hl; obtain ⟨v0, v1, v2, v3, v4, v5, rfl⟩ := lst6 (l := vs) hl; exact kp_binds X fun S => rfl
  case hdv => exact fun W => .nil
  case hnd => decide
  case hlen => rfl
  case hloc => decide
  case hcs => rfl
  case hcn => decide
  case hck => decide
  case hco => rfl
  case hgen => rfl
  case hk => rfl
  case hcl => rfl
  case hfm => rfl
  case hob => rfl

  have X0 := hs.start
  suffices H : ∀ n v0, n = vh.length → SX vh v0 V T t D D0 l n (codesOf tx) p ("_law_skips_right" ++ ".<locals>." ++ "<lambda>") none none none none → WB PP w (hd.heap_39 w.params) (b + 7) ⟨_, [("signs", n), ("is_turned_round", n + 1), ("is_not", n + 2), ("codes", n + 3)], _, _, _⟩ _ _ v0 _ from H _ _ rfl X0
  intro n v0 hn X0
  have hts : (tx.length : Int) = tx.cps.size := rfl
  have hsz : tx.cps.size ≤ 30 := ht.2
  have hsz2 : tx.length ≤ 1000000 := by show tx.cps.size ≤ _; omega
  refine wb_cons (ws_tup (by rfl) (by rintro ⟨⟩ rfl; rfl) ?_)
  walk_at "go"
  refine we_callG (g_law_draw w) (k_law_draw w) (by rfl) (by rfl) (by rfl) ?_
  walk_at "go"
  refine WC.mono (draw_ok w X0.sb.deck (by omega) (by omega)) ?_
  rintro _ v1 ⟨r1, rfl, -, -, hd1, K1⟩
  have X1 := X0.drw hd1 K1
  clear hd1 K1
  walk_at "go"
  generalize p - 1 + r1 = limit
  refine we_callG (g_law_draw w) (k_law_draw w) (by rfl) (by rfl) (by rfl) ?_
  walk_at "go"
  refine WC.mono (draw_ok w X1.sb.deck (by omega) (by omega)) ?_
  rintro _ v2 ⟨r2, rfl, -, -, hd2, K2⟩
  have X2 := X1.drw hd2 K2
  clear hd2 K2
  walk_at "go"
  generalize (r2 == 1) = tr
  refine ⟨_, rfl, ?_⟩
  refine was_name (by rfl) (by rfl) (set_step (by walk_at "setfm") ?_)
  refine was_cell (k := n + 1) (by rfl) (by walk_at "look") X2.sb.k2 ?_
  have X3 := X2.set2 (o' := some (.bool tr))
  generalize v2.set (n + 1) (.cell (some (.bool tr))) = v3 at X3 ⊢
  walk_at "go"
  have X4 := X3.app (e := [.list [.str "w", .str "w_", .str " ", .str ". ", .str "()"]])
  refine we_callG (g_law_draw w) (k_law_draw w) (by rfl) (by rfl) (by rfl) ?_
  walk_at "go"
  refine WC.mono (draw_ok w X4.sb.deck (by omega) (by omega)) ?_
  rintro _ v5 ⟨r3, rfl, hr3, hr3', hd5, K5⟩
  have X5 := X4.drw hd5 K5
  have hL5 := K5.get _ _ X3.sb.deck.ge (get_last (r := []))
  clear hd5 K5
  walk_at "go"
  obtain ⟨K, sg, hK, hmem⟩ := KS_get r3.toNat (by omega)
  refine ⟨_, .list hL5 hr3 (by omega) hK, ?_⟩
  clear hL5
  walk_at "go"
  refine ws_cut (α := VH) (fun _ => [("deck", some (.ref D)), ("view", some (.ref V)), ("table", some (.ref T)), ("text", some (.str tx)), ("place", some (.int p)), ("at", some (.int at')), ("limit", some (.int limit)), ("kinds", some (.str K))]) (fun v => v) (fun v => SX vh v V T t D D0 l n (codesOf tx) p ("_law_skips_right" ++ ".<locals>." ++ "<lambda>") (some (.str sg)) (some (.bool tr)) none none) ?_ fun v6 X6 => ?_
  · refine ws_nameC (k := n) (by rfl) (by rfl) (by walk_at "look") ?_
    walk_at "go"
    refine ⟨_, M_str PySem.F.slot_str_join PySem.F.type_str_join, keep_builtin, ?_⟩
    walk_at "go"
    refine we_comp (by rfl) (by intro _ _; rfl) ?_
    walk_at "go"
    refine ⟨_, _, iter_str (KS_asc _ hmem).1, trivial, ?_⟩
    refine wcr_pure dG rfl (fun _ => trivial) (by rw [strItems_len]; exact (KS_asc _ hmem).2) (fun x hx zs => ?_) ?_
    · obtain ⟨q, r, rfl, hl, hg⟩ := KS_elem _ hmem x hx
      refine wi_nil ⟨rfl, br_t ?_⟩
      refine we_dictSub (D := SD) (by rfl) (by rfl) (by decide) (by rfl) (by rfl) (by simp) (by decide) (by rfl) ?_
      walk_at "go"
      exact ⟨_, _, rfl, hl, rfl, hg⟩
    obtain ⟨ys, e1, e2, e3⟩ := KS_join _ hmem
    rw [e1, List.nil_append]
    walk_at "go"
    refine wc_of (C_join (ys := ys) get_last (by decide) e3) ?_
    rw [e2]
    walk_at "go"
    exact ⟨_, X5.app.sb.k1, rfl, _, X5.app.set1, by walk_at "fle", rfl⟩
  · have hk2 := X6.sb.k2
    have hk1 := X6.sb.k1
    walk_at "go"
    refine we_callG (g_skip_syntax w) (k_skip_syntax w) (by rfl) (by rfl) (by rfl) ?_
    walk_at "go"
    refine WC.same (skip_syntax_ok w (X6.sb.doc ht) at' limit K tr) ?_
    walk_at "go"
    refine we_callG (g_law_skipped w) (k_law_skipped w) (by rfl) (by rfl) (by rfl) ?_
    walk_at "go"
    refine we_lamG [("signs", n), ("is_turned_round", n + 1)] (by rfl) (chd w) (by intro _; rfl) (by rfl) X6.sb.tab fun k v7 K7 hk7 hT7 => ?_
    have X7 := X6.lamb hT7 K7
    walk_at "go"
    refine WC.same (skipped_ok w tx p at' limit h0 h1 (by omega) _ (fun a => match a with | .str s => some (strIn s sg != tr) | _ => none) (fun c => strIn ⟨#[c]⟩ sg != tr) ?_ (fun c => rfl)) ?_
    · refine ⟨⟨_, _, _, _, _, k, "sign", rfl, hk7, (fun nm cl' pm c' ctv v => rfl), by decide, by decide, rfl, rfl, rfl, fun cd a v hv => ?_⟩⟩
      cases a with
      | str s =>
        cases hv
        refine we_cmp (by rfl) (we_cmp (by rfl) ?_)
        walk_at "go"
        refine we_free (k := n) (by rfl) (by walk_at "look") X7.sb.k1 (by rfl) (by rfl) ?_
        walk_at "go"
        refine we_free (k := n + 1) (by rfl) (by walk_at "look") X7.sb.k2 (by rfl) (by rfl) ?_
        walk_at "go"
      | _ => cases hv
    rw [skipTo_congr (isOf_pk ht (KS_ok _ hmem) tr), codesOf_len]
    walk_at "go"
    refine br_no (by simp) ?_
    walk_at "go"
    refine ws_tup (by rfl) (by rintro ⟨⟩ rfl; rfl) ?_
    walk_at "go"
    have X8 := X7.app (e := [.list [.tup [.str "a-z", .str "ab", .bool false], .tup [.str "^a-b9", .str "ab9", .bool true], .tup [.str "\\-a", .str "-a", .bool false], .tup [.str "^ \n", .str " \n", .bool true], .tup [.str "0-9A-Z_", .str "09Z_", .bool false]]])
    refine we_callG (g_law_draw w) (k_law_draw w) (by rfl) (by rfl) (by rfl) ?_
    walk_at "go"
    refine WC.mono (draw_ok w X8.sb.deck (by omega) (by omega)) ?_
    rintro _ v9 ⟨r4, rfl, hr4, hr4', hd9, K9⟩
    have X9 := X8.drw hd9 K9
    have hL9 := K9.get _ _ X7.sb.deck.ge (get_last (r := []))
    clear hd9 K9
    walk_at "go"
    obtain ⟨sh, sg2, isn, hsh, hmem2⟩ := SH_get r4.toNat (by omega)
    refine ⟨_, .list hL9 hr4 (by omega) hsh, ?_⟩
    clear hL9
    refine ⟨_, rfl, ?_⟩
    refine was_name (by rfl) (by rfl) (set_step (by walk_at "setfm") ?_)
    refine was_cell (k := n) (by rfl) (by walk_at "look") X9.sb.k1 ?_
    have X10 := X9.set1 (o' := some (.str sg2))
    refine was_cell (k := n + 2) (by rfl) (by walk_at "look") X10.sb.k3 ?_
    have X11 := X10.set3 (o' := some (.bool isn))
    generalize (v9.set n (.cell (some (.str sg2)))).set (n + 2) (.cell (some (.bool isn))) = v11 at X11 ⊢
    refine was_nil (th_next ?_)
    refine wb_cons (ws_tup (by rfl) (by rintro ⟨⟩ rfl; rfl) ?_)
    refine we_callG (g_codes_of_set w) (k_codes_of_set w) (by rfl) (by rfl) (by rfl) ?_
    refine wl_cons (by rfl) ?_
    refine we_comp (by rfl) (by intro _ _; rfl) ?_
    walk_at "go"
    have hasc : sh.cps.all (· < 128) = true := (SH_ok5 _ hmem2).1
    have hshl : sh.cps.size ≤ 100 := (SH_ok5 _ hmem2).2
    refine ⟨_, _, iter_str hasc, trivial, ?_⟩
    refine wcr_pure ordG rfl (fun _ => trivial) (by rw [strItems_len]; simp; omega) (fun x hx zs => ?_) ?_
    · obtain ⟨c, -, rfl⟩ := strItems_mem hx
      walk_at "go"
      rfl
    rw [ordItems, List.nil_append]
    walk_at "go"
    refine WC.mono (codes_of_set_ok w get_last (by rw [codesOf_len]; exact Nat.le_trans hshl (by decide)) (SH_ok1 _ hmem2) rfl (SH_ok2 _ hmem2) (SH_ok3 _ hmem2)) ?_
    rintro _ _ ⟨Dc, kvs, e12, rfl, rfl, hDc, hkvs⟩
    have hkvs' : ∀ m ∈ alph, (intMapGet kvs (m : Int)).isSome = strIn ⟨#[m]⟩ sg2 := fun m hm => (hkvs m).trans (SH_ok4 _ hmem2 m hm)
    have X12 := (X11.app (e := [AO.list ((codesOf sh).map .int)])).app (e := e12)
    generalize v11 ++ [AO.list ((codesOf sh).map .int)] ++ e12 = v12 at X12 hDc ⊢
    refine ⟨_, rfl, ?_⟩
    refine was_cell (k := n + 3) (by rfl) (by walk_at "look") X12.sb.k4 ?_
    have X13 := X12.set4 (o' := some (.ref Dc))
    have hDc13 : (v12.set (n + 3) (.cell (some (.ref Dc))))[Dc]? = some (.idict kvs) := get_ne (fun z => by rw [← z, X12.sb.k4] at hDc; cases hDc) hDc
    generalize v12.set (n + 3) (.cell (some (.ref Dc))) = v13 at X13 hDc13 ⊢
    clear hDc
    refine was_name (by rfl) (by rfl) (set_step (by walk_at "setfm") ?_)
    refine was_nil (th_next ?_)
    have hj1 := X13.sb.k1
    have hj3 := X13.sb.k3
    have hj4 := X13.sb.k4
    walk_at "go"
    refine br_no (by simp) ?_
    walk_at "go"
    refine we_comp (by rfl) (by intro _ _; rfl) ?_
    walk_at "go"
    refine ⟨_, _, iter_str (by decide +kernel), trivial, ?_⟩
    have hal : ∀ c ∈ ("ab09Z-_ .()\n" : Str).cps.toList, c ∈ alph := by decide +kernel
    refine wcr_pure (fun _ => none) rfl (fun _ => trivial) (by decide +kernel) (fun x hx zs => ?_) ?_
    · obtain ⟨c, hc, rfl⟩ := strItems_mem hx
      walk_at "go"
      rw [hkvs' c (hal c hc)]
      exact br_no (by simp) rfl
    have hnone : ∀ xs : List AV, xs.filterMap (fun _ => (none : Option AV)) = [] := fun xs => by induction xs with | nil => rfl | cons _ _ ih => exact ih
    rw [hnone, List.nil_append]
    walk_at "go"
    refine ex_some (cmp_ne (xs := []) (ys := []) (get_left get_last) get_last) ?_
    refine br_no (by simp) ?_
    walk_at "go"
    have X14 := (X13.app (e := [AO.list []])).app (e := [AO.list []])
    have hDc14 : (v13 ++ [AO.list []] ++ [AO.list []])[Dc]? = some (.idict kvs) := get_left (get_left hDc13)
    generalize v13 ++ [AO.list []] ++ [AO.list []] = v14 at X14 hDc14 ⊢
    clear hj1 hj3 hj4
    have hm4 := X14.sb.k4
    refine we_callG (g_skip_codes w) (k_skip_codes w) (by rfl) (by rfl) (by rfl) ?_
    walk_at "go"
    have hnn : ∀ c ∈ codesOf tx, 0 ≤ c := fun c hc => by
      obtain ⟨m, hm, rfl⟩ := List.mem_map.mp hc
      omega
    refine WC.same (skip_codes_ok w (X14.sb.doc ht).v hnn hDc14 at' limit isn) ?_
    walk_at "go"
    refine we_callG (g_law_skipped w) (k_law_skipped w) (by rfl) (by rfl) (by rfl) ?_
    walk_at "go"
    refine we_lamG [("signs", n), ("is_not", n + 2)] (by rfl) (chd w) (by intro _; rfl) (by rfl) X14.sb.tab fun k2 v15 K15 hk15 hT15 => ?_
    have X15 := X14.lamb hT15 K15
    walk_at "go"
    refine WC.same (skipped_ok w tx p at' limit h0 h1 (by omega) _ (fun a => match a with | .str s => some (strIn s sg2 != isn) | _ => none) (fun c => strIn ⟨#[c]⟩ sg2 != isn) ?_ (fun c => rfl)) ?_
    · refine ⟨⟨_, _, _, _, _, k2, "other", rfl, hk15, (fun nm cl' pm c' ctv v => rfl), by decide, by decide, rfl, rfl, rfl, fun cd a v hv => ?_⟩⟩
      cases a with
      | str s =>
        cases hv
        refine we_cmp (by rfl) (we_cmp (by rfl) ?_)
        walk_at "go"
        refine we_free (k := n) (by rfl) (by walk_at "look") X15.sb.k1 (by rfl) (by rfl) ?_
        walk_at "go"
        refine we_free (k := n + 2) (by rfl) (by walk_at "look") X15.sb.k3 (by rfl) (by rfl) ?_
        walk_at "go"
      | _ => cases hv
    have hcg : ∀ q, amg (codesOf tx) p kvs isn q = pk tx p (fun c => strIn ⟨#[c]⟩ sg2 != isn) q := fun q => by
      unfold amg pk
      cases hw : within (codesOf tx) p q with
      | false => rfl
      | true =>
        obtain ⟨-, h2⟩ := codeAt_in hw
        obtain ⟨m, hm, e⟩ := List.mem_map.mp h2
        rw [← e, hkvs' m (ht.1 m hm)]
        simp
    rw [skipTo_congr hcg, codesOf_len]
    walk_at "go"
    subst hn
    exact ⟨by simp [retOf], X15.done⟩
end

/-- the runs of a body, put to use -/
theorem run_body {prog : Program} {w : World} {K : Frag} {b : Nat} {c : Cx} {ac : Act} {env : Env} {W : Wd} {fm : Fm} {vh : VH} {body : List Stmt} {Φ : AFl → Fm → VH → Prop} {s : Shared} {Q : Flow → Shared → Prop} {E : Value → Shared → Prop}
    (H : WB prog w K b c body fm vh Φ) (O : Ok K b ac) (ER : EnvR W c ac env) (Lv : Lives prog w ac W ⟨fm, vh⟩ s.heap)
    (fin : ∀ f fm' vh' fl W' h' tk', Φ f fm' vh' → W.le W' → Lives prog w ac W' ⟨fm', vh'⟩ h' → FlR W' fl f → Q fl { s with heap := h', toks := tk' }) : wpAny (model prog w) ac.A (execs body env) Q E s := by
  obtain ⟨f, fm', vh', h1, h2⟩ := H
  exact h1 ac env W s Q E O ER Lv fun fl W' h' tk' le L r => fin f fm' vh' fl W' h' tk' h2 le L r
theorem wcr_inv {prog : Program} {w : World} {K : Frag} {b : Nat} {c : Cx} {sc : Scope} {cl : List (Str × Nat)} {n : Str} {ifs : List Expr} {elt : Expr} {l : Nat} {P : AS → Prop} {fm : Fm} {Φ : VH → Prop} (N : Nat) (I : Nat → VH → Prop) (hP : ∀ vh, P ⟨fm, vh⟩)
    (step : ∀ k x vh, k < N → I k vh → WIfs prog w K b (c.comp sc cl n x) ifs fm vh fun v vh1 => Br v (WE prog w K b (c.comp sc cl n x) elt fm vh1 fun y vh2 => ∃ zs, vh2[l]? = some (.list zs) ∧ zs.length ≤ 1000000 ∧ I (k + 1) (vh2.set l (.list (zs ++ [y])))) (I (k + 1) vh1)) :
    ∀ (xs : List AV) (k : Nat) (vh : VH), k + xs.length ≤ N → I k vh → (∀ vh', I (k + xs.length) vh' → Φ vh') → WCR prog w K b c sc cl n ifs elt l P xs fm vh Φ
  | [], k, vh, _, h, g => wcr_nil (hP _) (g _ h)
  | x :: xs, k, vh, hN, h, g => by
    refine wcr_cons (hP _) ?_
    rw [List.length_cons] at hN
    obtain ⟨v, v1, h1, h2⟩ := step k x vh (by omega) h
    have g' : ∀ vh', I (k + 1 + xs.length) vh' → Φ vh' := fun vh' z => g vh' (by rw [List.length_cons, show k + (xs.length + 1) = k + 1 + xs.length by omega]; exact z)
    refine ⟨v, v1, h1, fun e => ?_, fun e => ?_⟩
    · obtain ⟨y, v2, h3, zs, q1, q2, q3⟩ := h2.yes e
      exact ⟨y, v2, h3, zs, q1, q2, wcr_inv N I hP step xs (k + 1) _ (by omega) q3 g'⟩
    · exact wcr_inv N I hP step xs (k + 1) _ (by omega) (h2.no e) g'
abbrev lamQ : Str := "_law_skips_right" ++ ".<locals>." ++ "<lambda>"
structure LB (v : VH) (T D D0 : Nat) : Prop where
  c0 : v[0]? = some (.cell (some (.ref D)))
  tab : TabG v 1 lamQ
  table : TAt v T stdG
  deck : DeckAt v D D0
section
variable {v v' : VH} {T D D0 : Nat}
theorem LB.app {e : VH} (x : LB v T D D0) : LB (v ++ e) T D D0 := ⟨get_left x.c0, x.tab.kp Kp.left loose_none id, x.table.left, x.deck.app⟩
theorem LB.drw (x : LB v T D D0) (hd : DeckAt v' D D0) (K : Kp (fun i => i = D ∨ i = D0) v v') : LB v' T D D0 := by
  have L := x.deck.loose
  refine ⟨K.get _ _ (x.deck.nl x.c0 (by nofun)) x.c0, ?_, x.table.fix K L, hd⟩
  obtain ⟨ks, h1, h2⟩ := x.tab
  exact x.tab.kp K L (x.deck.nl h1 (by nofun))
theorem LB.setl (x : LB v T D D0) {i : Nat} {xs ys : List AV} (h : v[i]? = some (.list xs)) (hne : i ≠ D ∧ i ≠ D0) : LB (v.set i (.list ys)) T D D0 := by
  have K : Kp (fun j => j = i) v (v.set i (.list ys)) := Kp.set rfl
  have L : Loose v (fun j => j = i) := fun j o hj e => by
    subst hj; rw [h] at e; cases e; rfl
  obtain ⟨xs', m, k, g1, g2, g3, g4⟩ := x.deck
  refine ⟨K.get _ _ (fun z => by rw [← z, x.c0] at h; cases h) x.c0, ?_, x.table.fix K L, ⟨xs', m, k, g1, get_ne hne.1 g2, get_ne hne.2 g3, g4⟩⟩
  obtain ⟨ks, h1, h2⟩ := x.tab
  exact x.tab.kp K L (fun z => by rw [← z, h1] at h; cases h)
theorem S0.doc {V t l : Nat} {p : Int} {q tx : Str} (x : S0 v V T t D D0 l (codesOf tx) p q) (ht : TextOk tx) : Doc v V T (codesOf tx) p kap := by
  obtain ⟨d, h1, h2⟩ := x.view
  refine ⟨⟨d, l, h1, h2, x.codes, by rw [codesOf_len]; have := ht.2; omega⟩, stdG, x.table, fun c hc => ?_⟩
  obtain ⟨m, hm, rfl⟩ := List.mem_map.mp hc
  obtain ⟨e1, e2⟩ := alph_std m (ht.1 m hm)
  exact ⟨e1, e2, by omega⟩
theorem S0.app {V t l : Nat} {p : Int} {q : Str} {cs : List Int} {e : VH} (x : S0 v V T t D D0 l cs p q) : S0 (v ++ e) V T t D D0 l cs p q := by
  obtain ⟨d, h1, h2⟩ := x.view
  exact ⟨⟨d, get_left h1, get_left h2⟩, get_left x.codes, x.table.left, x.deck.app, x.tab.kp Kp.left loose_none id, x.ne⟩
theorem S0.drw {V t l : Nat} {p : Int} {q : Str} {cs : List Int} (x : S0 v V T t D D0 l cs p q) (hd : DeckAt v' D D0) (K : Kp (fun i => i = D ∨ i = D0) v v') : S0 v' V T t D D0 l cs p q := by
  have L := x.deck.loose
  obtain ⟨d, h1, h2⟩ := x.view
  refine ⟨⟨d, K.fix L h1 rfl, K.fix L h2 rfl⟩, K.get _ _ (fun z => z.elim x.ne.1 x.ne.2) x.codes, x.table.fix K L, hd, ?_, x.ne⟩
  obtain ⟨ks, h1, h2⟩ := x.tab
  exact x.tab.kp K L (x.deck.nl h1 (by nofun))
end
theorem TX_get (i : Nat) (h : i < 14) : ∃ n, ("ab09Z--_ . ()\n" : Str).cps[i]? = some n ∧ n ∈ alph := by
  have : ∀ i < 14, ("ab09Z--_ . ()\n" : Str).cps.getD i 0 ∈ alph ∧ i < ("ab09Z--_ . ()\n" : Str).cps.size := by decide +kernel
  obtain ⟨h1, h2⟩ := this i h
  refine ⟨_, Array.getElem?_eq_getElem h2, ?_⟩
  rw [Array.getD, dif_pos h2] at h1
  exact h1
theorem glued1 (ns : List Nat) : (Builtin.Str.glued "" (ns.map fun n => (⟨#[n]⟩ : Str))).cps.toList = ns := by
  have e0 : ("" : Str).cps = #[] := by decide +kernel
  have key : ∀ (r : List Nat) (acc : Array Nat), ((r.map fun n => (⟨#[n]⟩ : Str)).foldl (fun (acc : Array Nat) p => acc ++ ("" : Str).cps ++ p.cps) acc).toList = acc.toList ++ r := by
    intro r
    induction r with
    | nil => intro acc; simp
    | cons c r ih =>
      intro acc
      rw [List.map_cons, List.foldl_cons, ih, e0]
      simp
  cases ns with
  | nil => decide +kernel
  | cons c r =>
    unfold Builtin.Str.glued
    show ((r.map fun n => (⟨#[n]⟩ : Str)).foldl (fun acc p => acc ++ ("" : Str).cps ++ p.cps) (#[c] : Array Nat)).toList = _
    rw [key]; rfl

section
variable (w : World)
theorem law_wb {ns : List Int} (hl : ns.length ≤ 63) : ∃ (params : Arguments) (body : List Stmt) (scope : Scope) (dV kV doc pm cdv ct oc : Value) (an od : Option Addr) (osl : Array (Option Value)) (qual : Str), (hd.heap_39 w.params).lookup 396 = some ⟨oc, od, .func (fnOf "law" qual params body scope dV kV doc pm an cdv ct), osl⟩ ∧
    ∀ cd, WB PP w (hd.heap_39 w.params) 20 ⟨scope, [("deck", 0)], none, "law" ++ ".<locals>.", cd⟩ body [("script", some (.blist ns))] [.cell none, .tab 388 []] fun f _ vh' => f = .ret (.bool true) ∧ ∃ ks, vh'[1]? = some (.tab 388 ks) := by
  refine ⟨_, _, _, _, _, _, _, _, _, _, _, _, _, _, by k_is, fun cd => ?_⟩
  have hns : ns.length ≤ 1000 := by omega
  refine wb_cons (ws_tup (by rfl) (by rintro ⟨⟩ rfl; rfl) ?_)
  walk_at "go"
  refine we_callG (g_law_deck w) (k_law_deck w) (by rfl) (by rfl) (by rfl) ?_
  walk_at "go"
  refine WC.mono (deck_ok w hns) ?_
  rintro _ _ ⟨D, D0, e1, rfl, hDge, hD0ge, rfl, hd1⟩
  have hc1 : ([AO.cell none, AO.tab 388 []] ++ e1)[0]? = some (.cell none) := rfl
  have ht1 : ([AO.cell none, AO.tab 388 []] ++ e1)[1]? = some (.tab 388 []) := rfl
  generalize [AO.cell none, AO.tab 388 []] ++ e1 = v1 at hd1 hc1 ht1 ⊢
  walk_at "go"
  refine we_callG (g_standard_table w) (k_standard_table w) (by rfl) (by rfl) (by rfl) ?_
  walk_at "go"
  refine WC.mono (table_ok w) ?_
  rintro _ _ ⟨T, e2, rfl, rfl, hT⟩
  walk_at "go"
  refine ⟨_, rfl, ?_⟩
  refine was_cell (k := 0) (by rfl) (by walk_at "look") (get_left hc1) ?_
  have hD0 : (0 : Nat) ≠ D := by simp at hDge; omega
  have hD00 : (0 : Nat) ≠ D0 := by simp at hD0ge; omega
  have X1 : LB ((v1 ++ e2).set 0 (.cell (some (.ref D)))) T D D0 := by
    have h0 := get_left (e := e2) hc1
    have K : Kp (fun j => j = 0) (v1 ++ e2) ((v1 ++ e2).set 0 (.cell (some (.ref D)))) := Kp.set rfl
    have L : Loose (v1 ++ e2) (fun j => j = 0) := fun j o hj e => by
      subst hj; rw [h0] at e; cases e; rfl
    obtain ⟨xs', m, k, g1, g2, g3, g4⟩ := hd1
    exact ⟨get_hit h0, ⟨[], get_ne (by decide) (get_left ht1), fun l c => trivial⟩, hT.fix K L, ⟨xs', m, k, g1, get_ne hD0 (get_left g2), get_ne hD00 (get_left g3), g4⟩⟩
  generalize (v1 ++ e2).set 0 (.cell (some (.ref D))) = v2 at X1 ⊢
  clear hd1 hc1 ht1 hT
  walk_at "go"
  refine ⟨_, M_str PySem.F.slot_str_join PySem.F.type_str_join, keep_builtin, ?_⟩
  walk_at "go"
  refine we_comp (by rfl) (by intro _ _; rfl) ?_
  walk_at "go"
  refine we_callG (g_law_many w) (k_law_many w) (by rfl) (by rfl) (by rfl) ?_
  walk_at "go"
  refine WC.mono (many_ok w hns 8 30 (by decide)) ?_
  rintro _ _ ⟨many, e3, rfl, hm1, hm2, rfl⟩
  have X2 := X1.app (e := e3)
  generalize v2 ++ e3 = v3 at X2 ⊢
  clear X1
  walk_at "go"
  refine ⟨_, _, iter_rng (small_of (by omega) (by omega)), trivial, ?_⟩
  refine wcr_inv (N := 30) (I := fun k v => LB v T D D0 ∧ ∃ cs : List Nat, v[v3.length]? = some (.list (cs.map fun n => .str ⟨#[n]⟩)) ∧ cs.length ≤ k ∧ ∀ n ∈ cs, n ∈ alph) (fun _ => trivial) ?_ _ 0 _ (by rw [rngItems_len]; omega) ⟨X2.app, [], get_last, Nat.le_refl _, by nofun⟩ ?_
  · rintro k x v hkN ⟨X, cs, hcs, hk, hal⟩
    have hc0 := X.c0
    walk_at "go"
    refine we_callG (g_law_draw w) (k_law_draw w) (by rfl) (by rfl) (by rfl) ?_
    walk_at "go"
    refine WC.mono (draw_ok w X.deck (by decide) (by decide)) ?_
    rintro _ v' ⟨r, rfl, hr0, hr1, hd, K⟩
    have X' := X.drw hd K
    obtain ⟨n, hn1, hn2⟩ := TX_get r.toNat (by omega)
    refine ⟨_, .str hr0 (by omega) hn1, ?_⟩
    have hne := X2.deck.ge
    have hl' := K.get _ _ hne hcs
    refine ⟨_, hl', by rw [List.length_map]; omega, X'.setl hl' ⟨fun z => hne (.inl z), fun z => hne (.inr z)⟩, cs ++ [n], ?_, by rw [List.length_append, List.length_singleton]; omega, fun m hm => ?_⟩
    · rw [List.map_append]; exact get_hit hl'
    · rcases List.mem_append.mp hm with hm | hm
      · exact hal m hm
      · rw [List.mem_singleton.mp hm]; exact hn2
  · rintro v4 ⟨X3, cs, hcs, hk, hal⟩
    rw [rngItems_len] at hk
    walk_at "go"
    have hyl : (cs.map fun n => (⟨#[n]⟩ : Str)).map (·.length) = cs.map fun _ => 1 := by rw [List.map_map]; rfl
    have hsum : (cs.map fun _ => 1).sum = cs.length := by
      clear hcs hk hal hyl
      induction cs with
      | nil => rfl
      | cons c r ih => rw [List.map_cons, List.sum_cons, ih, List.length_cons]; omega
    refine wc_of (C_join (ys := cs.map fun n => (⟨#[n]⟩ : Str)) (by rw [List.map_map]; exact hcs) (by decide) (by rw [hyl, hsum, List.length_map]; omega)) ?_
    have htx : TextOk (Builtin.Str.glued "" (cs.map fun n => (⟨#[n]⟩ : Str))) := by
      have h1 := glued1 cs
      refine ⟨fun n hn => hal n (by rw [← h1]; exact hn), ?_⟩
      have h2 := congrArg List.length h1
      rw [Array.length_toList] at h2
      omega
    generalize Builtin.Str.glued "" (cs.map fun n => (⟨#[n]⟩ : Str)) = tx at htx ⊢
    clear hcs hk hal hyl hsum cs
    have hsz : tx.cps.size ≤ 30 := htx.2
    have hsz2 : tx.length ≤ 1000000 := by show tx.cps.size ≤ _; omega
    have hts : (tx.length : Int) = tx.cps.size := rfl
    have hc0 := X3.c0
    walk_at "go"
    refine we_callG (g_law_draw w) (k_law_draw w) (by rfl) (by rfl) (by rfl) ?_
    walk_at "go"
    refine WC.mono (draw_ok w X3.deck (by decide) (by decide)) ?_
    rintro _ v5 ⟨r, rfl, hr0, hr1, hd, K⟩
    have X4 := X3.drw hd K
    clear hd K hc0
    walk_at "go"
    generalize 1 + r = p
    refine we_callG (g_TextRow w) (k_TextRow w) (by rfl) (by rfl) (by rfl) ?_
    refine wl_cons (by rfl) ?_
    refine we_comp (by rfl) (by intro _ _; rfl) ?_
    walk_at "go"
    have hasc : tx.cps.all (· < 128) = true := by
      rw [Array.all_eq_true_iff_forall_mem]
      intro n hn
      have hA : ∀ n ∈ alph, n < 128 := by decide
      exact decide_eq_true (hA n (htx.1 n (Array.mem_toList_iff.mpr hn)))
    refine ⟨_, _, iter_str hasc, trivial, ?_⟩
    refine wcr_pure ordG rfl (fun _ => trivial) (by rw [strItems_len]; simp; omega) (fun x hx zs => ?_) ?_
    · obtain ⟨c, -, rfl⟩ := strItems_mem hx
      walk_at "go"
      rfl
    rw [ordItems, List.nil_append]
    walk_at "go"
    refine WC.same' (row_new w get_last (by rw [codesOf_len]; omega) p) ?_
    have X5 := X4.app (e := [AO.list ((codesOf tx).map .int)])
    have hg : ¬ ((v5 ++ [AO.list ((codesOf tx).map .int)]).length = D ∨ (v5 ++ [AO.list ((codesOf tx).map .int)]).length = D0) := X5.deck.ge
    have hg2 : ∀ i, (v5 ++ [AO.list ((codesOf tx).map .int)]).length + i ≠ D ∧ (v5 ++ [AO.list ((codesOf tx).map .int)]).length + i ≠ D0 := fun i => by
      obtain ⟨⟨xs, h1⟩, ⟨ys, h2⟩⟩ := X5.deck.lists
      have := (List.getElem?_eq_some_iff.mp h1).1
      have := (List.getElem?_eq_some_iff.mp h2).1
      omega
    generalize v5 ++ [AO.list ((codesOf tx).map .int)] = v6 at X5 hg hg2 ⊢
    have Y : S0 (v6 ++ [.ns [("codes", .ref (v6.length + 2)), ("place", .int p)], .inst 334 v6.length, .list ((codesOf tx).map .int)]) (v6.length + 1) T 1 D D0 (v6.length + 2) (codesOf tx) p lamQ :=
      ⟨⟨_, get_app1, get_last⟩, get_app2, X5.table.left, X5.deck.app, X5.tab.kp Kp.left loose_none id, hg2 2⟩
    have Yc := get_left (e := [.ns [("codes", .ref (v6.length + 2)), ("place", .int p)], .inst 334 v6.length, .list ((codesOf tx).map .int)]) X5.c0
    generalize v6 ++ [.ns [("codes", .ref (v6.length + 2)), ("place", .int p)], .inst 334 v6.length, .list ((codesOf tx).map .int)] = v7 at Y Yc ⊢
    generalize v6.length + 2 = l at Y ⊢
    generalize v6.length + 1 = V at Y ⊢
    clear X5 X4 X3 X2 hg hg2
    walk_at "go"
    refine ws_for (α := VH) (fun _ => [("script", some (.blist ns)), ("table", some (.ref T)), ("text", some (.str tx)), ("place", some (.int p)), ("view", some (.ref V))]) (fun v => v) (fun _ v => S0 v V T 1 D D0 l (codesOf tx) p lamQ ∧ v[0]? = some (.cell (some (.ref D)))) v7 (by intro _ _; rfl) ?_
    walk_at "go"
    refine ⟨_, _, iter_rng (small_of (by decide) (by decide)), ⟨Y, Yc⟩, by walk_at "fle", rfl, fun _ _ _ => trivial, ?_, ?_⟩
    · rintro v ⟨Z, Zc⟩
      walk_at "go"
      obtain ⟨ks, h1, h2⟩ := Z.tab
      exact ⟨ks, h1⟩
    · rintro y ys v ⟨Z, Zc⟩
      walk_at "go"
      refine we_callG (g_law_draw w) (k_law_draw w) (by rfl) (by rfl) (by rfl) ?_
      walk_at "go"
      refine WC.mono (draw_ok w Z.deck (by omega) (by omega)) ?_
      rintro _ v8 ⟨r1, rfl, hr10, hr11, hd8, K8⟩
      have Z8 := Z.drw hd8 K8
      have Zc8 := K8.get _ _ (Z.deck.nl Zc (by nofun)) Zc
      clear hd8 K8 Zc
      walk_at "go"
      refine we_callG (g_law_moves_right w) (k_law_moves_right w) (by rfl) (by rfl) (by rfl) ?_
      walk_at "go"
      refine we_callG (g_law_draw w) (k_law_draw w) (by rfl) (by rfl) (by rfl) ?_
      walk_at "go"
      refine WC.mono (draw_ok w Z8.deck (by decide) (by decide)) ?_
      rintro _ v9 ⟨r2, rfl, hr20, hr21, hd9, K9⟩
      have Z9 := Z8.drw hd9 K9
      have Zc9 := K9.get _ _ (Z8.deck.nl Zc8 (by nofun)) Zc8
      clear hd9 K9 Zc8
      walk_at "go"
      refine WC.mono (moves_ok w (Z9.doc htx) htx (p + r1) (r2 - 4) (by omega) (by rw [codesOf_len]; omega)) ?_
      rintro _ _ ⟨rfl, e10, rfl⟩
      have Z10 := Z9.app (e := e10)
      have Zc10 := get_left (e := e10) Zc9
      generalize v9 ++ e10 = v10 at Z10 Zc10 ⊢
      clear Zc9
      walk_at "go"
      refine we_callG (g_law_skips_right w) (k_law_skips_right w) (by rfl) (by rfl) (by rfl) ?_
      walk_at "go"
      refine WC.mono (skips_ok w Z10 htx (by omega) (by omega)) ?_
      rintro _ v11 ⟨rfl, Z11, K11⟩
      have Zc11 := K11.get 0 _ (fun z => z.elim hD0 fun z => z.elim hD00 (by decide)) Zc10
      walk_at "go"
      exact .inl ⟨rfl, v11, ⟨Z11, Zc11⟩, by walk_at "fle", rfl⟩
end

theorem law_end {prog : Program} {K : Frag} {w : World} {ns : List Int} {h₀ : Heap} {L fa a : Addr} {cd : Value} {vs : List Value} {m : Str → Option Value} {oc : Obj} {p : Program} {loose : List Str} {mean : ExcName → Option Value} {mg mb : Str → Option Value} {body : List Stmt} {scope : Scope} {Q : Flow → Shared → Prop} {E : Value → Shared → Prop} {s : Shared}
    (H : WB prog w K 20 ⟨scope, [("deck", 0)], none, "law" ++ ".<locals>.", cd⟩ body [("script", some (.blist ns))] [.cell none, .tab 388 []] fun f _ vh' => f = .ret (.bool true) ∧ ∃ ks, vh'[1]? = some (.tab 388 ks))
    (B : Below callerA h₀ [] h₀) (X : K.In h₀) (T : Top p loose mean mg mb h₀) (F : Fr h₀ L s.heap m) (hm : m "script" = some (.ref a)) (N : News h₀ L s.heap [(L + 1, oc), (388, tabObj #[])]) (hoc : oc.data = .cell none) (hl : 388 < L)
    (hL : h₀.IsList a vs.toArray) (hI : IntsAre vs ns) (hkind : scope.kind = .function) (hcells : cellsFrom (L + 1) scope.names [] = [(Str.ofString "deck", L + 1)])
    (fin : ∀ h' m' tk', Fr h₀ L h' m' → (∃ ps, h'.get? 388 = some (tabObj ps)) → Q (.ret (.bool true)) { s with heap := h', toks := tk' }) :
    wpAny (model prog w) (callerA.deeper (envOfC "law" scope L fa cd)) (execs body (envOfC "law" scope L fa cd)) Q E s := by
  obtain ⟨ob, hb1, hb2, e, hb3⟩ := hL
  have Lv : Lives prog w ⟨callerA.deeper (envOfC "law" scope L fa cd), envOfC "law" scope L fa cd, [], callerA, h₀, h₀, L⟩ ⟨[L + 1, 388], [], [(a, ob)]⟩ ⟨[("script", some (.blist ns))], [.cell none, .tab 388 []]⟩ s.heap := by
    refine ⟨m, [oc, tabObj #[]], F, N, (fun p hp => absurd hp List.not_mem_nil), ?_, ?_, rfl, rfl, ?_, ?_, ?_, ?_⟩
    · refine List.nodup_cons.mpr ⟨fun z => ?_, List.nodup_cons.mpr ⟨List.not_mem_nil, List.nodup_nil⟩⟩
      exact absurd (List.mem_singleton.mp z) (Nat.ne_of_gt (Nat.lt_succ_of_lt hl))
    · intro b hb
      rcases List.mem_cons.mp hb with rfl | hb
      · exact Nat.lt_of_lt_of_le (show 1 < 388 by decide) (Nat.le_of_lt (Nat.lt_succ_of_lt hl))
      · rw [List.mem_singleton.mp hb]; decide
    · intro x y hx
      rw [lookup_hd] at hx
      split at hx
      · rename_i q
        subst q
        cases hx
        exact ⟨_, hm, .blist (.head _) hb2 ⟨e, hb3⟩ hI⟩
      · cases hx
    · intro i o q h1 h2
      match i, h1, h2 with
      | 0, h1, h2 => cases h1; cases h2; exact ⟨none, hoc, .none⟩
      | 1, h1, h2 => cases h1; cases h2; exact ⟨[], rfl, .nil⟩
      | i + 2, h1, h2 => simp at h1
    · intro i P ks h2
      match i, h2 with
      | 0, h2 => cases h2
      | 1, h2 => cases h2; rfl
      | i + 2, h2 => simp at h2
    · intro q hq
      rw [List.mem_singleton.mp hq]
      exact hb1
  refine run_body (ac := ⟨callerA.deeper (envOfC "law" scope L fa cd), envOfC "law" scope L fa cd, [], callerA, h₀, h₀, L⟩) H ⟨B, X, ⟨_, _, _, _, _, T⟩, rfl, rfl, hkind, rfl, (by show callerA.depth + 1 + 20 < recursionLimit; decide), (by show callerA.units + 3 + 64 + 8 * 20 < cLine; decide)⟩ ⟨rfl, rfl, rfl, hkind, ?_, rfl, rfl, rfl, rfl⟩ Lv ?_
  · show ClR _ (cellsFrom (L + 1) scope.names []) _
    rw [hcells]
    exact ClR.cons (fun x k e => by cases e) rfl
  · rintro f fm' vh' fl W' h' tk' ⟨rfl, ks, hk⟩ le Lv' hfl
    cases hfl with
    | ret hv =>
    cases hv
    obtain ⟨m', reals, y⟩ := Lv'
    have hP := y.tb 1 388 ks hk
    have Lv2 : Lives prog w ⟨callerA.deeper (envOfC "law" scope L fa cd), envOfC "law" scope L fa cd, [], callerA, h₀, h₀, L⟩ W' ⟨fm', vh'⟩ h' := ⟨m', reals, y⟩
    obtain ⟨ob2, g1, ⟨ps, g2, g3⟩, -⟩ := Lv2.atR (σ := ⟨fm', vh'⟩) hk hP
    exact fin h' m' tk' y.F ⟨_, g2 ▸ g1⟩
theorem law_wb2 (w : World) {ns : List Int} (hl : ns.length ≤ 63) (params : Arguments) (body : List Stmt) (scope : Scope) (dV kV doc pm cdv ct oc : Value) (an od : Option Addr) (osl : Array (Option Value)) (qual : Str) (h : (hd.heap_39 w.params).lookup 396 = some ⟨oc, od, .func (fnOf "law" qual params body scope dV kV doc pm an cdv ct), osl⟩) (cd : Value) :
    WB PP w (hd.heap_39 w.params) 20 ⟨scope, [("deck", 0)], none, "law" ++ ".<locals>.", cd⟩ body [("script", some (.blist ns))] [.cell none, .tab 388 []] fun f _ vh' => f = .ret (.bool true) ∧ ∃ ks, vh'[1]? = some (.tab 388 ks) := by
  obtain ⟨params, body, scope, dV, kV, doc, pm, cdv, ct, oc, an, od, osl, qual, hlk, H⟩ := law_wb w hl
  rw [h] at hlk
  cases hlk
  exact H cd
set_option maxHeartbeats 2000000 in
theorem fin0 : PySem.Challenge.rw_np0047_01.Holds := hd (by
  k_go0
  rename_i h₁ tk₁ wO right X0 X' T' K' F' N' l0
  rename_i ns _ _ _ _ _ _ _ a vs _ hL ra w1 r0 hI hr hc1 hc2 hD
  dsimp only
  refine law_end (law_wb2 _ (ns := ns) (by omega) _ _ _ _ _ _ _ _ _ _ _ _ _ _ (by k_is) _) K' X' T' F' rfl N' (right.trans rfl) l0 lifted hI rfl rfl (fun h' m' tk' F2 hP => ⟨goodW_bool F2 (by assumption) (raisesW_false ?_) ?_, hP, trivial⟩)
  · wrow_none_raised
  · kc_post)

end Mine
theorem PySem.Challenge.cw_np0047_01_holds : PySem.Challenge.rw_np0047_01.Holds :=
  Mine.fin0
