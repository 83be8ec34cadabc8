import PyProof.Rows.All
import Wide.All
import OpenK.AllK
import Wide.FinOn
import PySem.Challenge.RW_pq0282_01
open PySem PySem.W PyProof.Rows PySem.Calls
set_option Elab.async false
set_option linter.unusedVariables false
name_quick tw12268644228514654432 for PySem.W.S.findZ by PySem.W.S.findZ_eq
name_quick tw14224011070414065920 for PySem.W.S.findZ by PySem.W.S.findZ_eq
name_quick tw8789221427942488352 for PySem.W.S.findZ by PySem.W.S.findZ_eq
name_quick tw9979284746773624096 for PySem.W.S.findZ by PySem.W.S.findZ_eq
name_quick tw17069979004554194336 for PySem.W.S.findZ by PySem.W.S.findZ_eq
name_quick tw12825359941727978080 for PySem.W.S.findZ by PySem.W.S.findZ_eq
name_quick tw20863073609108064 for PySem.W.S.findZ by PySem.W.S.findZ_eq
name_quick tw16817318245366136608 for PySem.W.S.findZ by PySem.W.S.findZ_eq
name_quick tw5721027456603625697 for PySem.W.S.findZ by PySem.W.S.findZ_eq
name_quick tw3764465048917985505 for PySem.W.S.findZ by PySem.W.S.findZ_eq
name_quick tw16741492637210864865 for PySem.W.S.findZ by PySem.W.S.findZ_eq
name_quick tw14821650378409806113 for PySem.W.S.findZ by PySem.W.S.findZ_eq
name_quick tw11543547407058413889 for PySem.W.S.findZ by PySem.W.S.findZ_eq
name_quick tw2334299552400917057 for PySem.W.S.findZ by PySem.W.S.findZ_eq
name_quick tw8603108125212654177 for PySem.W.S.findZ by PySem.W.S.findZ_eq
name_quick tw16916688483869632129 for PySem.W.S.findZ by PySem.W.S.findZ_eq
name_quick tw11317593695737139937 for PySem.W.S.findZ by PySem.W.S.findZ_eq
name_quick tw13236226663087606529 for PySem.W.S.findZ by PySem.W.S.findZ_eq
name_quick tw6792406925840432001 for PySem.W.S.findZ by PySem.W.S.findZ_eq
name_quick tw1414301608579184545 for PySem.W.S.findZ by PySem.W.S.findZ_eq
name_quick tw13615603153576403970 for PySem.W.S.findZ by PySem.W.S.findZ_eq
name_quick tw3856783459128436802 for PySem.W.S.findZ by PySem.W.S.findZ_eq
name_quick tw12850107946570832962 for PySem.W.S.findZ by PySem.W.S.findZ_eq
name_quick tw9529234661008812162 for PySem.W.S.findZ by PySem.W.S.findZ_eq
name_quick tw704327219915372674 for PySem.W.S.findZ by PySem.W.S.findZ_eq
name_quick tw9594665118957945026 for PySem.W.S.findZ by PySem.W.S.findZ_eq
name_quick tw13559156169165276386 for PySem.W.S.findZ by PySem.W.S.findZ_eq
name_quick tw9948023125614773506 for PySem.W.S.findZ by PySem.W.S.findZ_eq
name_quick tw17000458434675057986 for PySem.W.S.findZ by PySem.W.S.findZ_eq
name_quick tw12835720964997663042 for PySem.W.S.findZ by PySem.W.S.findZ_eq
name_quick tw4797165386629745026 for PySem.W.S.findZ by PySem.W.S.findZ_eq
name_quick tw3093977132361051618 for PySem.W.S.findZ by PySem.W.S.findZ_eq
name_quick tw13640514254501968386 for PySem.W.S.findZ by PySem.W.S.findZ_eq
name_quick tw387338674003428930 for PySem.W.S.findZ by PySem.W.S.findZ_eq
name_quick tw4558998842232669794 for PySem.W.S.findZ by PySem.W.S.findZ_eq
name_quick tw14714103240675001986 for PySem.W.S.findZ by PySem.W.S.findZ_eq
name_quick tw6679490504615227074 for PySem.W.S.findZ by PySem.W.S.findZ_eq
name_quick tw8860024209350480642 for PySem.W.S.findZ by PySem.W.S.findZ_eq
name_quick tw8595292554425487202 for PySem.W.S.findZ by PySem.W.S.findZ_eq
name_quick tw4302124980754421698 for PySem.W.S.findZ by PySem.W.S.findZ_eq
name_quick tw15475462885187679331 for PySem.W.S.findZ by PySem.W.S.findZ_eq
name_quick tw11788150170368784547 for PySem.W.S.findZ by PySem.W.S.findZ_eq
name_quick tw13789449189825218787 for PySem.W.S.findZ by PySem.W.S.findZ_eq
name_quick tw11310463157757771331 for PySem.W.S.findZ by PySem.W.S.findZ_eq
name_quick tw17863021456227041891 for PySem.W.S.findZ by PySem.W.S.findZ_eq
name_quick tw136631920214876835 for PySem.W.S.findZ by PySem.W.S.findZ_eq
name_quick tw4978915544186085027 for PySem.W.S.findZ by PySem.W.S.findZ_eq
name_quick tw151948405760981731 for PySem.W.S.findZ by PySem.W.S.findZ_eq
name_quick tw7401281599722004195 for PySem.W.S.findZ by PySem.W.S.findZ_eq
name_quick tw10887116778572429059 for PySem.W.S.findZ by PySem.W.S.findZ_eq
name_quick tw505943868828395459 for PySem.W.S.findZ by PySem.W.S.findZ_eq
name_quick tw7232422423428716515 for PySem.W.S.findZ by PySem.W.S.findZ_eq
name_quick tw1258299570235058372 for PySem.W.S.findZ by PySem.W.S.findZ_eq
name_quick tw7299951869573292228 for PySem.W.S.findZ by PySem.W.S.findZ_eq
name_quick tw4039474712603431140 for PySem.W.S.findZ by PySem.W.S.findZ_eq
name_quick tw17532718790514356516 for PySem.W.S.findZ by PySem.W.S.findZ_eq
name_quick tw17274371674624000324 for PySem.W.S.findZ by PySem.W.S.findZ_eq
name_quick tw10007627690174824804 for PySem.W.S.findZ by PySem.W.S.findZ_eq
name_quick tw12734952128020822468 for PySem.W.S.findZ by PySem.W.S.findZ_eq
name_quick tw12392613427281201732 for PySem.W.S.findZ by PySem.W.S.findZ_eq
name_quick tw12233582284571471492 for PySem.W.S.findZ by PySem.W.S.findZ_eq
name_quick tw17975652961387846372 for PySem.W.S.findZ by PySem.W.S.findZ_eq
name_quick tw15168306246750427876 for PySem.W.S.findZ by PySem.W.S.findZ_eq
name_quick tw7269565832213808900 for PySem.W.S.findZ by PySem.W.S.findZ_eq
name_quick tw10317580896714288900 for PySem.W.S.findZ by PySem.W.S.findZ_eq
name_quick tw16752143609539240740 for PySem.W.S.findZ by PySem.W.S.findZ_eq
name_quick tw16350708796919097252 for PySem.W.S.findZ by PySem.W.S.findZ_eq
name_quick tw10424941004445345732 for PySem.W.S.findZ by PySem.W.S.findZ_eq
name_quick tw4224760802259116069 for PySem.W.S.findZ by PySem.W.S.findZ_eq
name_quick tw9136488742655976645 for PySem.W.S.findZ by PySem.W.S.findZ_eq
name_quick tw8703263022893421829 for PySem.W.S.findZ by PySem.W.S.findZ_eq
name_quick tw17672482021469178181 for PySem.W.S.findZ by PySem.W.S.findZ_eq
name_quick tw15278061642289888581 for PySem.W.S.findZ by PySem.W.S.findZ_eq
name_quick tw3442601649717412197 for PySem.W.S.findZ by PySem.W.S.findZ_eq
name_quick tw2039238271031011813 for PySem.W.S.findZ by PySem.W.S.findZ_eq
name_quick tw1402947280878808549 for PySem.W.S.findZ by PySem.W.S.findZ_eq
name_quick tw18350330562280901221 for PySem.W.S.findZ by PySem.W.S.findZ_eq
name_quick tw15323854079317868165 for PySem.W.S.findZ by PySem.W.S.findZ_eq
name_quick tw13141144453892091621 for PySem.W.S.findZ by PySem.W.S.findZ_eq
name_quick tw18416463498863911781 for PySem.W.S.findZ by PySem.W.S.findZ_eq
name_quick tw13607416678640721797 for PySem.W.S.findZ by PySem.W.S.findZ_eq
name_quick tw16049961110935095269 for PySem.W.S.findZ by PySem.W.S.findZ_eq
name_quick tw2660918139993853925 for PySem.W.S.findZ by PySem.W.S.findZ_eq
name_quick tw7581352650102555174 for PySem.W.S.findZ by PySem.W.S.findZ_eq
name_quick tw4933834842325187142 for PySem.W.S.findZ by PySem.W.S.findZ_eq
name_quick tw16145008321745377990 for PySem.W.S.findZ by PySem.W.S.findZ_eq
name_quick tw183835017167291270 for PySem.W.S.findZ by PySem.W.S.findZ_eq
name_quick tw13512673800721320934 for PySem.W.S.findZ by PySem.W.S.findZ_eq
name_quick tw7250012664060256230 for PySem.W.S.findZ by PySem.W.S.findZ_eq
name_quick tw18220123701641295943 for PySem.W.S.findZ by PySem.W.S.findZ_eq
name_quick tw2510522103970685063 for PySem.W.S.findZ by PySem.W.S.findZ_eq
name_quick tw16979880578912567463 for PySem.W.S.findZ by PySem.W.S.findZ_eq
name_quick tw16643706677886111943 for PySem.W.S.findZ by PySem.W.S.findZ_eq
name_quick tw11588390666370768167 for PySem.W.S.findZ by PySem.W.S.findZ_eq
name_quick tw6550987210724342151 for PySem.W.S.findZ by PySem.W.S.findZ_eq
name_quick tw1355338860687761863 for PySem.W.S.findZ by PySem.W.S.findZ_eq
name_quick tw9862997608875712007 for PySem.W.S.findZ by PySem.W.S.findZ_eq
name_quick tw4319705520415482375 for PySem.W.S.findZ by PySem.W.S.findZ_eq
name_quick tw15490439104401381959 for PySem.W.S.findZ by PySem.W.S.findZ_eq
name_quick tw1537898542681612871 for PySem.W.S.findZ by PySem.W.S.findZ_eq
name_quick tw4090926877573551719 for PySem.W.S.findZ by PySem.W.S.findZ_eq
name_quick tw15980859228951719591 for PySem.W.S.findZ by PySem.W.S.findZ_eq
name_quick tw8376441433122354887 for PySem.W.S.findZ by PySem.W.S.findZ_eq
name_quick tw15900120412870309639 for PySem.W.S.findZ by PySem.W.S.findZ_eq
name_quick tw14326252917377295143 for PySem.W.S.findZ by PySem.W.S.findZ_eq
name_quick tw15894407043143930727 for PySem.W.S.findZ by PySem.W.S.findZ_eq
name_quick tw11270796479367742343 for PySem.W.S.findZ by PySem.W.S.findZ_eq
name_quick tw10073347824450446311 for PySem.W.S.findZ by PySem.W.S.findZ_eq
name_quick tw10346894026039390216 for PySem.W.S.findZ by PySem.W.S.findZ_eq
name_quick tw5770868932273138760 for PySem.W.S.findZ by PySem.W.S.findZ_eq
name_quick tw2611137233208623240 for PySem.W.S.findZ by PySem.W.S.findZ_eq
name_quick tw14073706353221006472 for PySem.W.S.findZ by PySem.W.S.findZ_eq
name_quick tw10314498396905981064 for PySem.W.S.findZ by PySem.W.S.findZ_eq
name_quick tw2422670821966735624 for PySem.W.S.findZ by PySem.W.S.findZ_eq
name_quick tw5268983451555188008 for PySem.W.S.findZ by PySem.W.S.findZ_eq
name_quick tw13900631225919944168 for PySem.W.S.findZ by PySem.W.S.findZ_eq
name_quick tw9285146279643344392 for PySem.W.S.findZ by PySem.W.S.findZ_eq
name_quick tw16044759942350246408 for PySem.W.S.findZ by PySem.W.S.findZ_eq
name_quick tw4658958612460137192 for PySem.W.S.findZ by PySem.W.S.findZ_eq
name_quick tw6434138532213402376 for PySem.W.S.findZ by PySem.W.S.findZ_eq
name_quick tw3131671291697673992 for PySem.W.S.findZ by PySem.W.S.findZ_eq
name_quick tw5882768191206486792 for PySem.W.S.findZ by PySem.W.S.findZ_eq
name_quick tw5200128776193632040 for PySem.W.S.findZ by PySem.W.S.findZ_eq
name_quick tw16697116713213952808 for PySem.W.S.findZ by PySem.W.S.findZ_eq
name_quick tw3880421473898291048 for PySem.W.S.findZ by PySem.W.S.findZ_eq
name_quick tw17111948838632640456 for PySem.W.S.findZ by PySem.W.S.findZ_eq
name_quick tw18101931140130867144 for PySem.W.S.findZ by PySem.W.S.findZ_eq
name_quick tw14386061602966655976 for PySem.W.S.findZ by PySem.W.S.findZ_eq
name_quick tw14108194823987119177 for PySem.W.S.findZ by PySem.W.S.findZ_eq
name_quick tw7788680626742099145 for PySem.W.S.findZ by PySem.W.S.findZ_eq
name_quick tw10938465397075749097 for PySem.W.S.findZ by PySem.W.S.findZ_eq
name_quick tw1333364371103165705 for PySem.W.S.findZ by PySem.W.S.findZ_eq
name_quick tw17000155066101142889 for PySem.W.S.findZ by PySem.W.S.findZ_eq
name_quick tw13479600455187215721 for PySem.W.S.findZ by PySem.W.S.findZ_eq
name_quick tw8424611434330503625 for PySem.W.S.findZ by PySem.W.S.findZ_eq
name_quick tw3039592710220408265 for PySem.W.S.findZ by PySem.W.S.findZ_eq
name_quick tw14834023430324568649 for PySem.W.S.findZ by PySem.W.S.findZ_eq
name_quick tw12172078356533094185 for PySem.W.S.findZ by PySem.W.S.findZ_eq
name_quick tw12866136484021002089 for PySem.W.S.findZ by PySem.W.S.findZ_eq
name_quick tw43969757491396457 for PySem.W.S.findZ by PySem.W.S.findZ_eq
name_quick tw3976722010076183465 for PySem.W.S.findZ by PySem.W.S.findZ_eq
name_quick tw8796240567053077481 for PySem.W.S.findZ by PySem.W.S.findZ_eq
name_quick tw14311459727803291754 for PySem.W.S.findZ by PySem.W.S.findZ_eq
name_quick tw3094477031063562474 for PySem.W.S.findZ by PySem.W.S.findZ_eq
name_quick tw13981391230805400906 for PySem.W.S.findZ by PySem.W.S.findZ_eq
name_quick tw5349121933718820234 for PySem.W.S.findZ by PySem.W.S.findZ_eq
name_quick tw13480552361792772618 for PySem.W.S.findZ by PySem.W.S.findZ_eq
name_quick tw1377046205977697930 for PySem.W.S.findZ by PySem.W.S.findZ_eq
name_quick tw14333388528381170442 for PySem.W.S.findZ by PySem.W.S.findZ_eq
name_quick tw9800571698397750058 for PySem.W.S.findZ by PySem.W.S.findZ_eq
name_quick tw9501820088010722379 for PySem.W.S.findZ by PySem.W.S.findZ_eq
name_quick tw18260038339965228139 for PySem.W.S.findZ by PySem.W.S.findZ_eq
name_quick tw15263041282635125899 for PySem.W.S.findZ by PySem.W.S.findZ_eq
name_quick tw8727135674562949291 for PySem.W.S.findZ by PySem.W.S.findZ_eq
name_quick tw17532440430192770315 for PySem.W.S.findZ by PySem.W.S.findZ_eq
name_quick tw16966814322356759819 for PySem.W.S.findZ by PySem.W.S.findZ_eq
name_quick tw12813236842856870187 for PySem.W.S.findZ by PySem.W.S.findZ_eq
name_quick tw932993149863042379 for PySem.W.S.findZ by PySem.W.S.findZ_eq
name_quick tw11013792430000457035 for PySem.W.S.findZ by PySem.W.S.findZ_eq
name_quick tw8032284361305108907 for PySem.W.S.findZ by PySem.W.S.findZ_eq
name_quick tw5902227825499142635 for PySem.W.S.findZ by PySem.W.S.findZ_eq
name_quick tw3362959441861295915 for PySem.W.S.findZ by PySem.W.S.findZ_eq
name_quick tw4980102563643897964 for PySem.W.S.findZ by PySem.W.S.findZ_eq
name_quick tw4071324889030633612 for PySem.W.S.findZ by PySem.W.S.findZ_eq
name_quick tw9951705424602377420 for PySem.W.S.findZ by PySem.W.S.findZ_eq
name_quick tw11161088081135249708 for PySem.W.S.findZ by PySem.W.S.findZ_eq
name_quick tw667198328695590252 for PySem.W.S.findZ by PySem.W.S.findZ_eq
name_quick tw4636218855388986860 for PySem.W.S.findZ by PySem.W.S.findZ_eq
name_quick tw14979626087600564940 for PySem.W.S.findZ by PySem.W.S.findZ_eq
name_quick tw13678640442995254988 for PySem.W.S.findZ by PySem.W.S.findZ_eq
name_quick tw1156252341971683116 for PySem.W.S.findZ by PySem.W.S.findZ_eq
name_quick tw4775785305629353868 for PySem.W.S.findZ by PySem.W.S.findZ_eq
name_quick tw8642067239939848140 for PySem.W.S.findZ by PySem.W.S.findZ_eq
name_quick tw10833955939284561965 for PySem.W.S.findZ by PySem.W.S.findZ_eq
name_quick tw11306939235166856333 for PySem.W.S.findZ by PySem.W.S.findZ_eq
name_quick tw1617757218408452269 for PySem.W.S.findZ by PySem.W.S.findZ_eq
name_quick tw5076957145309523181 for PySem.W.S.findZ by PySem.W.S.findZ_eq
name_quick tw16374537267813192141 for PySem.W.S.findZ by PySem.W.S.findZ_eq
name_quick tw4679858250743294509 for PySem.W.S.findZ by PySem.W.S.findZ_eq
name_quick tw17846936440860909165 for PySem.W.S.findZ by PySem.W.S.findZ_eq
name_quick tw13036272033356848781 for PySem.W.S.findZ by PySem.W.S.findZ_eq
name_quick tw3282434896037501709 for PySem.W.S.findZ by PySem.W.S.findZ_eq
name_quick tw117213463901210413 for PySem.W.S.findZ by PySem.W.S.findZ_eq
name_quick tw15766043655864335149 for PySem.W.S.findZ by PySem.W.S.findZ_eq
name_quick tw16439824349840649037 for PySem.W.S.findZ by PySem.W.S.findZ_eq
name_quick tw17828083071136270317 for PySem.W.S.findZ by PySem.W.S.findZ_eq
name_quick tw18340240734955500558 for PySem.W.S.findZ by PySem.W.S.findZ_eq
name_quick tw8708707556590381134 for PySem.W.S.findZ by PySem.W.S.findZ_eq
name_quick tw13180171748994924942 for PySem.W.S.findZ by PySem.W.S.findZ_eq
name_quick tw16415621359673392558 for PySem.W.S.findZ by PySem.W.S.findZ_eq
name_quick tw11566699232636054958 for PySem.W.S.findZ by PySem.W.S.findZ_eq
name_quick tw8579058602437062094 for PySem.W.S.findZ by PySem.W.S.findZ_eq
name_quick tw7276740287692124622 for PySem.W.S.findZ by PySem.W.S.findZ_eq
name_quick tw15919542637913265678 for PySem.W.S.findZ by PySem.W.S.findZ_eq
name_quick tw7650934615059315214 for PySem.W.S.findZ by PySem.W.S.findZ_eq
name_quick tw9458956999447867950 for PySem.W.S.findZ by PySem.W.S.findZ_eq
name_quick tw8693227569615203950 for PySem.W.S.findZ by PySem.W.S.findZ_eq
name_quick tw900395245841561262 for PySem.W.S.findZ by PySem.W.S.findZ_eq
name_quick tw5706481520468235054 for PySem.W.S.findZ by PySem.W.S.findZ_eq
name_quick tw17730448691065144110 for PySem.W.S.findZ by PySem.W.S.findZ_eq
name_quick tw16018607276475445134 for PySem.W.S.findZ by PySem.W.S.findZ_eq
name_quick tw11985326045990495214 for PySem.W.S.findZ by PySem.W.S.findZ_eq
name_quick tw2711585505577850959 for PySem.W.S.findZ by PySem.W.S.findZ_eq
name_quick tw912392155897948271 for PySem.W.S.findZ by PySem.W.S.findZ_eq
name_quick tw1620339239838986703 for PySem.W.S.findZ by PySem.W.S.findZ_eq
name_quick tw11853533878840232495 for PySem.W.S.findZ by PySem.W.S.findZ_eq
name_quick tw6589095468515690095 for PySem.W.S.findZ by PySem.W.S.findZ_eq
name_quick tw17164873540382356111 for PySem.W.S.findZ by PySem.W.S.findZ_eq
name_quick tw15560500314895047343 for PySem.W.S.findZ by PySem.W.S.findZ_eq
name_quick tw11462045893675790159 for PySem.W.S.findZ by PySem.W.S.findZ_eq
name_quick tw9759809726879904816 for PySem.W.S.findZ by PySem.W.S.findZ_eq
name_quick tw10010936943081839664 for PySem.W.S.findZ by PySem.W.S.findZ_eq
name_quick tw1574873078441994576 for PySem.W.S.findZ by PySem.W.S.findZ_eq
name_quick tw2478078296215019888 for PySem.W.S.findZ by PySem.W.S.findZ_eq
name_quick tw3698559305507148144 for PySem.W.S.findZ by PySem.W.S.findZ_eq
name_quick tw347637069881736656 for PySem.W.S.findZ by PySem.W.S.findZ_eq
name_quick tw2719445374943340272 for PySem.W.S.findZ by PySem.W.S.findZ_eq
name_quick tw5135500740108067664 for PySem.W.S.findZ by PySem.W.S.findZ_eq
name_quick tw10948738476641704880 for PySem.W.S.findZ by PySem.W.S.findZ_eq
name_quick tw15112985482279097393 for PySem.W.S.findZ by PySem.W.S.findZ_eq
name_quick tw8075568018651887793 for PySem.W.S.findZ by PySem.W.S.findZ_eq
name_quick tw7323676302269181137 for PySem.W.S.findZ by PySem.W.S.findZ_eq
name_quick tw7275051467321613617 for PySem.W.S.findZ by PySem.W.S.findZ_eq
name_quick tw13254397897704925713 for PySem.W.S.findZ by PySem.W.S.findZ_eq
name_quick tw11625766737575182897 for PySem.W.S.findZ by PySem.W.S.findZ_eq
name_quick tw6380047634161181297 for PySem.W.S.findZ by PySem.W.S.findZ_eq
name_quick tw17018628822417861297 for PySem.W.S.findZ by PySem.W.S.findZ_eq
name_quick tw7496433998918960881 for PySem.W.S.findZ by PySem.W.S.findZ_eq
name_quick tw1092655722715705105 for PySem.W.S.findZ by PySem.W.S.findZ_eq
name_quick tw11863081143760314161 for PySem.W.S.findZ by PySem.W.S.findZ_eq
name_quick tw8017206721242287953 for PySem.W.S.findZ by PySem.W.S.findZ_eq
name_quick tw16176465441171805009 for PySem.W.S.findZ by PySem.W.S.findZ_eq
name_quick tw17057272898397164401 for PySem.W.S.findZ by PySem.W.S.findZ_eq
name_quick tw11445135464325071761 for PySem.W.S.findZ by PySem.W.S.findZ_eq
name_quick tw17517737089405305841 for PySem.W.S.findZ by PySem.W.S.findZ_eq
name_quick tw9151444980202551346 for PySem.W.S.findZ by PySem.W.S.findZ_eq
name_quick tw6929956602132211858 for PySem.W.S.findZ by PySem.W.S.findZ_eq
name_quick tw10029231156530900338 for PySem.W.S.findZ by PySem.W.S.findZ_eq
name_quick tw9564595351457756722 for PySem.W.S.findZ by PySem.W.S.findZ_eq
name_quick tw951843321253372498 for PySem.W.S.findZ by PySem.W.S.findZ_eq
name_quick tw16414604833108395602 for PySem.W.S.findZ by PySem.W.S.findZ_eq
name_quick tw14884601019740666482 for PySem.W.S.findZ by PySem.W.S.findZ_eq
name_quick tw16593013826814733010 for PySem.W.S.findZ by PySem.W.S.findZ_eq
name_quick tw9931943479562821362 for PySem.W.S.findZ by PySem.W.S.findZ_eq
name_quick tw4011157648589011858 for PySem.W.S.findZ by PySem.W.S.findZ_eq
name_quick tw4407734736301137906 for PySem.W.S.findZ by PySem.W.S.findZ_eq
name_quick tw6662432510661729299 for PySem.W.S.findZ by PySem.W.S.findZ_eq
name_quick tw4630116404320636979 for PySem.W.S.findZ by PySem.W.S.findZ_eq
name_quick tw15066959818950650227 for PySem.W.S.findZ by PySem.W.S.findZ_eq
name_quick tw10942035263794033107 for PySem.W.S.findZ by PySem.W.S.findZ_eq
name_quick tw10227693086864044499 for PySem.W.S.findZ by PySem.W.S.findZ_eq
name_quick tw3766158894648301139 for PySem.W.S.findZ by PySem.W.S.findZ_eq
name_quick tw5732905514179830355 for PySem.W.S.findZ by PySem.W.S.findZ_eq
name_quick tw9376109419431680627 for PySem.W.S.findZ by PySem.W.S.findZ_eq
name_quick tw4083366629787285363 for PySem.W.S.findZ by PySem.W.S.findZ_eq
name_quick tw1503297043503765363 for PySem.W.S.findZ by PySem.W.S.findZ_eq
name_quick tw1749818173716722547 for PySem.W.S.findZ by PySem.W.S.findZ_eq
name_quick tw313226197891681235 for PySem.W.S.findZ by PySem.W.S.findZ_eq
name_quick tw15450981722951097364 for PySem.W.S.findZ by PySem.W.S.findZ_eq
name_quick tw2862820112641550484 for PySem.W.S.findZ by PySem.W.S.findZ_eq
name_quick tw4075660801711882420 for PySem.W.S.findZ by PySem.W.S.findZ_eq
name_quick tw18211773271919218964 for PySem.W.S.findZ by PySem.W.S.findZ_eq
name_quick tw11636919720809706868 for PySem.W.S.findZ by PySem.W.S.findZ_eq
name_quick tw15480198773659482676 for PySem.W.S.findZ by PySem.W.S.findZ_eq
name_quick tw8537084889766193716 for PySem.W.S.findZ by PySem.W.S.findZ_eq
name_quick tw11420187438672877268 for PySem.W.S.findZ by PySem.W.S.findZ_eq
name_quick tw9315938663221665524 for PySem.W.S.findZ by PySem.W.S.findZ_eq
name_quick tw17730428716208468724 for PySem.W.S.findZ by PySem.W.S.findZ_eq
name_quick tw15742981410569661332 for PySem.W.S.findZ by PySem.W.S.findZ_eq
name_quick tw6363645014702824404 for PySem.W.S.findZ by PySem.W.S.findZ_eq
name_quick tw14530364306720264245 for PySem.W.S.findZ by PySem.W.S.findZ_eq
name_quick tw8206430501311747189 for PySem.W.S.findZ by PySem.W.S.findZ_eq
name_quick tw282004115355043989 for PySem.W.S.findZ by PySem.W.S.findZ_eq
name_quick tw12290603225136948437 for PySem.W.S.findZ by PySem.W.S.findZ_eq
name_quick tw4527066259768149269 for PySem.W.S.findZ by PySem.W.S.findZ_eq
name_quick tw8753696776887207221 for PySem.W.S.findZ by PySem.W.S.findZ_eq
name_quick tw10528696920762540405 for PySem.W.S.findZ by PySem.W.S.findZ_eq
name_quick tw10470071008263537045 for PySem.W.S.findZ by PySem.W.S.findZ_eq
name_quick tw14553827428707814869 for PySem.W.S.findZ by PySem.W.S.findZ_eq
name_quick tw12237943961548833269 for PySem.W.S.findZ by PySem.W.S.findZ_eq
name_quick tw392140993173905013 for PySem.W.S.findZ by PySem.W.S.findZ_eq
name_quick tw11964429278604863157 for PySem.W.S.findZ by PySem.W.S.findZ_eq
name_quick tw1218959903707654005 for PySem.W.S.findZ by PySem.W.S.findZ_eq
name_quick tw7299303143086499733 for PySem.W.S.findZ by PySem.W.S.findZ_eq
name_quick tw2354135333415324597 for PySem.W.S.findZ by PySem.W.S.findZ_eq
name_quick tw14126943448341045398 for PySem.W.S.findZ by PySem.W.S.findZ_eq
name_quick tw17954471519018878134 for PySem.W.S.findZ by PySem.W.S.findZ_eq
name_quick tw3619232141914619222 for PySem.W.S.findZ by PySem.W.S.findZ_eq
name_quick tw10996506086634736982 for PySem.W.S.findZ by PySem.W.S.findZ_eq
name_quick tw14023627001141898710 for PySem.W.S.findZ by PySem.W.S.findZ_eq
name_quick tw11939915149646268982 for PySem.W.S.findZ by PySem.W.S.findZ_eq
name_quick tw12635813782599140982 for PySem.W.S.findZ by PySem.W.S.findZ_eq
name_quick tw3264259588550801142 for PySem.W.S.findZ by PySem.W.S.findZ_eq
name_quick tw2408619945344806742 for PySem.W.S.findZ by PySem.W.S.findZ_eq
name_quick tw9467589175468403638 for PySem.W.S.findZ by PySem.W.S.findZ_eq
name_quick tw2670528217467546775 for PySem.W.S.findZ by PySem.W.S.findZ_eq
name_quick tw1829445100760108279 for PySem.W.S.findZ by PySem.W.S.findZ_eq
name_quick tw15663404670287596823 for PySem.W.S.findZ by PySem.W.S.findZ_eq
name_quick tw17888162413812561239 for PySem.W.S.findZ by PySem.W.S.findZ_eq
name_quick tw14214894240641447287 for PySem.W.S.findZ by PySem.W.S.findZ_eq
name_quick tw11057745971380855287 for PySem.W.S.findZ by PySem.W.S.findZ_eq
name_quick tw12945451867199242903 for PySem.W.S.findZ by PySem.W.S.findZ_eq
name_quick tw14433975572909055671 for PySem.W.S.findZ by PySem.W.S.findZ_eq
name_quick tw8741693389053969175 for PySem.W.S.findZ by PySem.W.S.findZ_eq
name_quick tw13145125596335152023 for PySem.W.S.findZ by PySem.W.S.findZ_eq
name_quick tw1702518465993881591 for PySem.W.S.findZ by PySem.W.S.findZ_eq
name_quick tw3891137856419664920 for PySem.W.S.findZ by PySem.W.S.findZ_eq
name_quick tw6004533443673955352 for PySem.W.S.findZ by PySem.W.S.findZ_eq
name_quick tw662354867322794072 for PySem.W.S.findZ by PySem.W.S.findZ_eq
name_quick tw14168537005229113720 for PySem.W.S.findZ by PySem.W.S.findZ_eq
name_quick tw6059929106960060952 for PySem.W.S.findZ by PySem.W.S.findZ_eq
name_quick tw7198390536060210744 for PySem.W.S.findZ by PySem.W.S.findZ_eq
name_quick tw13016732220969518872 for PySem.W.S.findZ by PySem.W.S.findZ_eq
name_quick tw8400853705098224536 for PySem.W.S.findZ by PySem.W.S.findZ_eq
name_quick tw16947794391021106201 for PySem.W.S.findZ by PySem.W.S.findZ_eq
name_quick tw17988542015724977305 for PySem.W.S.findZ by PySem.W.S.findZ_eq
name_quick tw7492464533870168345 for PySem.W.S.findZ by PySem.W.S.findZ_eq
name_quick tw6683783046931543321 for PySem.W.S.findZ by PySem.W.S.findZ_eq
name_quick tw1440575883149458809 for PySem.W.S.findZ by PySem.W.S.findZ_eq
name_quick tw9407582987413476825 for PySem.W.S.findZ by PySem.W.S.findZ_eq
name_quick tw15007238320947547705 for PySem.W.S.findZ by PySem.W.S.findZ_eq
name_quick tw8719427161674164953 for PySem.W.S.findZ by PySem.W.S.findZ_eq
name_quick tw6245536207120538393 for PySem.W.S.findZ by PySem.W.S.findZ_eq
name_quick tw16531745337717519161 for PySem.W.S.findZ by PySem.W.S.findZ_eq
name_quick tw3424931102881643321 for PySem.W.S.findZ by PySem.W.S.findZ_eq
name_quick tw721709456127091705 for PySem.W.S.findZ by PySem.W.S.findZ_eq
name_quick tw2460228577881660442 for PySem.W.S.findZ by PySem.W.S.findZ_eq
name_quick tw470574548607681690 for PySem.W.S.findZ by PySem.W.S.findZ_eq
name_quick tw682011567655089306 for PySem.W.S.findZ by PySem.W.S.findZ_eq
name_quick tw9908251947323293946 for PySem.W.S.findZ by PySem.W.S.findZ_eq
name_quick tw12832477231654346042 for PySem.W.S.findZ by PySem.W.S.findZ_eq
name_quick tw5978237884098788730 for PySem.W.S.findZ by PySem.W.S.findZ_eq
name_quick tw8098380416015320538 for PySem.W.S.findZ by PySem.W.S.findZ_eq
name_quick tw3820604794100220378 for PySem.W.S.findZ by PySem.W.S.findZ_eq
name_quick tw8119918657739134586 for PySem.W.S.findZ by PySem.W.S.findZ_eq
name_quick tw3105397867545767578 for PySem.W.S.findZ by PySem.W.S.findZ_eq
name_quick tw14896874001708588922 for PySem.W.S.findZ by PySem.W.S.findZ_eq
name_quick tw219737044198020058 for PySem.W.S.findZ by PySem.W.S.findZ_eq
name_quick tw7392212959928792091 for PySem.W.S.findZ by PySem.W.S.findZ_eq
name_quick tw3577408171920636059 for PySem.W.S.findZ by PySem.W.S.findZ_eq
name_quick tw17497748084772794779 for PySem.W.S.findZ by PySem.W.S.findZ_eq
name_quick tw16548257151911338427 for PySem.W.S.findZ by PySem.W.S.findZ_eq
name_quick tw9691624938235723451 for PySem.W.S.findZ by PySem.W.S.findZ_eq
name_quick tw9763268239775435451 for PySem.W.S.findZ by PySem.W.S.findZ_eq
name_quick tw2664551874359636763 for PySem.W.S.findZ by PySem.W.S.findZ_eq
name_quick tw13215998728584607739 for PySem.W.S.findZ by PySem.W.S.findZ_eq
name_quick tw5357591511691535388 for PySem.W.S.findZ by PySem.W.S.findZ_eq
name_quick tw6654550962395885724 for PySem.W.S.findZ by PySem.W.S.findZ_eq
name_quick tw16846860572762119324 for PySem.W.S.findZ by PySem.W.S.findZ_eq
name_quick tw7365555872484859036 for PySem.W.S.findZ by PySem.W.S.findZ_eq
name_quick tw5701610774189311196 for PySem.W.S.findZ by PySem.W.S.findZ_eq
name_quick tw5345256250457102556 for PySem.W.S.findZ by PySem.W.S.findZ_eq
name_quick tw1706496860858754268 for PySem.W.S.findZ by PySem.W.S.findZ_eq
name_quick tw3560238982266916124 for PySem.W.S.findZ by PySem.W.S.findZ_eq
name_quick tw6817277305950994716 for PySem.W.S.findZ by PySem.W.S.findZ_eq
name_quick tw2447775223705975068 for PySem.W.S.findZ by PySem.W.S.findZ_eq
name_quick tw17100903815162463580 for PySem.W.S.findZ by PySem.W.S.findZ_eq
name_quick tw12659028871203227004 for PySem.W.S.findZ by PySem.W.S.findZ_eq
name_quick tw10205541121877940668 for PySem.W.S.findZ by PySem.W.S.findZ_eq
name_quick tw5396446701170858492 for PySem.W.S.findZ by PySem.W.S.findZ_eq
name_quick tw18345786424863182364 for PySem.W.S.findZ by PySem.W.S.findZ_eq
name_quick tw11333186260410459676 for PySem.W.S.findZ by PySem.W.S.findZ_eq
name_quick tw7745614565497352828 for PySem.W.S.findZ by PySem.W.S.findZ_eq
name_quick tw5111356299099525756 for PySem.W.S.findZ by PySem.W.S.findZ_eq
name_quick tw7397068168572129948 for PySem.W.S.findZ by PySem.W.S.findZ_eq
name_quick tw13317431791736044220 for PySem.W.S.findZ by PySem.W.S.findZ_eq
name_quick tw1291980286583624508 for PySem.W.S.findZ by PySem.W.S.findZ_eq
name_quick tw2364824441312284604 for PySem.W.S.findZ by PySem.W.S.findZ_eq
name_quick tw16643379632663270332 for PySem.W.S.findZ by PySem.W.S.findZ_eq
name_quick tw16241802466949684156 for PySem.W.S.findZ by PySem.W.S.findZ_eq
name_quick tw2905824091091238844 for PySem.W.S.findZ by PySem.W.S.findZ_eq
name_quick tw1258717718454355964 for PySem.W.S.findZ by PySem.W.S.findZ_eq
name_quick tw13912434898499826684 for PySem.W.S.findZ by PySem.W.S.findZ_eq
name_quick tw17476080006546285661 for PySem.W.S.findZ by PySem.W.S.findZ_eq
name_quick tw5032809538720368765 for PySem.W.S.findZ by PySem.W.S.findZ_eq
name_quick tw3778451253796500701 for PySem.W.S.findZ by PySem.W.S.findZ_eq
name_quick tw5529568453561195837 for PySem.W.S.findZ by PySem.W.S.findZ_eq
name_quick tw14537914154153760125 for PySem.W.S.findZ by PySem.W.S.findZ_eq
name_quick tw12329403913580668285 for PySem.W.S.findZ by PySem.W.S.findZ_eq
name_quick tw18056578402003937789 for PySem.W.S.findZ by PySem.W.S.findZ_eq
name_quick tw10323183001455561277 for PySem.W.S.findZ by PySem.W.S.findZ_eq
name_quick tw11186114360453789277 for PySem.W.S.findZ by PySem.W.S.findZ_eq
name_quick tw17804436615005485693 for PySem.W.S.findZ by PySem.W.S.findZ_eq
name_quick tw3972328310683599613 for PySem.W.S.findZ by PySem.W.S.findZ_eq
name_quick tw7892128664451923741 for PySem.W.S.findZ by PySem.W.S.findZ_eq
name_quick tw13759679279233594173 for PySem.W.S.findZ by PySem.W.S.findZ_eq
name_quick tw16296994325663420285 for PySem.W.S.findZ by PySem.W.S.findZ_eq
name_quick tw17552769576498331613 for PySem.W.S.findZ by PySem.W.S.findZ_eq
name_quick tw6019396324639902685 for PySem.W.S.findZ by PySem.W.S.findZ_eq
name_quick tw11277716924127702174 for PySem.W.S.findZ by PySem.W.S.findZ_eq
name_quick tw4748654258956052638 for PySem.W.S.findZ by PySem.W.S.findZ_eq
name_quick tw6711915476519705758 for PySem.W.S.findZ by PySem.W.S.findZ_eq
name_quick tw7035115661146626270 for PySem.W.S.findZ by PySem.W.S.findZ_eq
name_quick tw3636048126100218174 for PySem.W.S.findZ by PySem.W.S.findZ_eq
name_quick tw17964007177503468958 for PySem.W.S.findZ by PySem.W.S.findZ_eq
name_quick tw460243522976405022 for PySem.W.S.findZ by PySem.W.S.findZ_eq
name_quick tw11130039905162102590 for PySem.W.S.findZ by PySem.W.S.findZ_eq
name_quick tw1962928258387122110 for PySem.W.S.findZ by PySem.W.S.findZ_eq
name_quick tw9787463984185863102 for PySem.W.S.findZ by PySem.W.S.findZ_eq
name_quick tw4292500188555128830 for PySem.W.S.findZ by PySem.W.S.findZ_eq
name_quick tw17279654841073493023 for PySem.W.S.findZ by PySem.W.S.findZ_eq
name_quick tw6122645084068987007 for PySem.W.S.findZ by PySem.W.S.findZ_eq
name_quick tw4549333791460862111 for PySem.W.S.findZ by PySem.W.S.findZ_eq
name_quick tw5189142188285759775 for PySem.W.S.findZ by PySem.W.S.findZ_eq
name_quick tw10644746117286937887 for PySem.W.S.findZ by PySem.W.S.findZ_eq
name_quick tw16349804527192203551 for PySem.W.S.findZ by PySem.W.S.findZ_eq
name_quick tw9011979029575296479 for PySem.W.S.findZ by PySem.W.S.findZ_eq
name_quick tw11729385059970357855 for PySem.W.S.findZ by PySem.W.S.findZ_eq
name_quick tw6448080314894763839 for PySem.W.S.findZ by PySem.W.S.findZ_eq
name_quick tw11452132507678324671 for PySem.W.S.findZ by PySem.W.S.findZ_eq
name_quick tw11994158751524154303 for PySem.W.S.findZ by PySem.W.S.findZ_eq
name_quick tw14223099787259518943 for PySem.W.S.findZ by PySem.W.S.findZ_eq
name_quick tw13335737130258781183 for PySem.W.S.findZ by PySem.W.S.findZ_eq
name_quick tw741791059519205896 for PySem.W.S.findZ by PySem.W.S.findZ_eq
namespace Mine
set_option maxRecDepth 100000 in
set_option maxHeartbeats 8000000 in
open_top hd for PySem.Challenge.rw_pq0282_01
theorem kf : PySem.Challenge.rw_pq0282_01 = PySem.Challenge.rw_pq0282_01 ∧ hd.heap_39 = hd.heap_39 := by
  k_fill
  exact ⟨rfl, rfl⟩
local macro_rules | `(tactic| walk_at $s:str) => `(tactic| k_extra $s)
section PartMB
abbrev Ledger := List (Addr × Obj)
def Keep (as : List Addr) (h h' : Heap) : Prop := ∀ b o, h.get? b = some o → b ∉ as → h'.get? b = some o

/-- what is left of a ledger when some addresses are struck -/
inductive Rst (as : List Addr) : Ledger → Ledger → Prop
  | nil : Rst as [] []
  | all {l} : (∀ p ∈ l, p.1 ∉ as) → Rst as l l
  | drop {p l r} : p.1 ∈ as → Rst as l r → Rst as (p :: l) r
  | keep {p l r} : p.1 ∉ as → Rst as l r → Rst as (p :: l) (p :: r)
  | app {l₁ l₂ r₁ r₂} : Rst as l₁ r₁ → Rst as l₂ r₂ → Rst as (l₁ ++ l₂) (r₁ ++ r₂)
theorem Rst.out {as : List Addr} {l r : Ledger} (h : Rst as l r) : ∀ p ∈ r, p ∈ l ∧ p.1 ∉ as := by
  induction h with
  | nil => intro p hp; cases hp
  | all h => exact fun p hp => ⟨hp, h p hp⟩
  | drop _ _ ih => exact fun p hp => ⟨.tail _ (ih p hp).1, (ih p hp).2⟩
  | keep h _ ih =>
    intro p hp
    rcases List.mem_cons.mp hp with rfl | hp
    · exact ⟨.head _, h⟩
    · exact ⟨.tail _ (ih p hp).1, (ih p hp).2⟩
  | app _ _ ih₁ ih₂ =>
    intro p hp
    rcases List.mem_append.mp hp with hp | hp
    · exact ⟨List.mem_append.mpr (.inl (ih₁ p hp).1), (ih₁ p hp).2⟩
    · exact ⟨List.mem_append.mpr (.inr (ih₂ p hp).1), (ih₂ p hp).2⟩

theorem rejoin {h₀ h h' : Heap} {L : Addr} {as : List Addr} {news nn' rest : Ledger} (N : News h₀ L h news) (N' : News h₀ L h' nn') (Kp : Keep as h h') (hr : Rst as news rest) : News h₀ L h' (nn' ++ rest) := by
  intro p hp
  rcases List.mem_append.mp hp with hp | hp
  · exact N' p hp
  · have q := hr.out p hp
    have := N p q.1
    exact ⟨Kp _ _ this.1 q.2, this.2⟩

theorem wpAny_up {α : Type} {M : Model} {A A' : Around} {t : Sem α} {Q : α → Shared → Prop} {E : Value → Shared → Prop} {s : Shared} (h : wpAny M A' t Q E s)
    (e1 : A.handled = A'.handled) (e2 : A.frames = A'.frames) (e3 : A.guards = A'.guards) (hd : A.depth ≤ A'.depth) (hu : A.units ≤ A'.units) : wpAny M A t Q E s :=
  fun Γ p hΓ => h Γ p ⟨hΓ.1.trans e1, Nat.le_trans hΓ.2.1 hd, fun l hl => hΓ.2.2.1 l (e2.trans hl), fun g hg => hΓ.2.2.2.1 g (e3.trans hg), Nat.le_trans hΓ.2.2.2.2 hu⟩

/-- a call of a def that comes back: over a part of the ledger -/
def Spec (prog : Program) (w : World) (K : Frag) (D U : Nat) (f : Addr) (args : List Value) (nn : Ledger) (Post : Value → Ledger → Prop) : Prop :=
  ∀ (p : Program) (loose : List Str) (mean : ExcName → Option Value) (mg mb : Str → Option Value) (env : Env) (outer : List Env) (A₀ A : Around) (base h₀ : Heap) (L : Addr) (m : Str → Option Value) (s : Shared) (Q E : Value → Shared → Prop),
    A.handled = none → A.frames = some (env :: outer) → A.guards = some [] → A.depth ≤ D → A.units ≤ U → env.frame = some L → env.scope.kind = .function →
    Below A₀ base outer h₀ → Fr h₀ L s.heap m → K.In h₀ → News h₀ L s.heap nn → Top p loose mean mg mb h₀ →
    (∀ v nn' h' tk', Post v nn' → Fr h₀ L h' m → News h₀ L h' nn' → Keep (nn.map (·.1)) s.heap h' → (∀ q ∈ nn', q.1 ∈ nn.map (·.1) ∨ s.heap.get? q.1 = none) → Q v { s with heap := h', toks := tk' }) →
    wpAny (model prog w) A (call (.ref f) args) Q E s

section
variable {prog : Program} {w : World} {K : Frag} {D U : Nat} {f : Addr} {args : List Value} {nn : Ledger} {Post : Value → Ledger → Prop}

theorem spec_use {p : Program} {loose : List Str} {mean : ExcName → Option Value} {mg mb : Str → Option Value} {env : Env} {outer : List Env} {A₀ A : Around} {base h₀ : Heap} {L : Addr} {m : Str → Option Value} {s : Shared} {Q E : Value → Shared → Prop} {news rest : Ledger}
    (S : Spec prog w K D U f args nn Post) (hh : A.handled = none) (hA : A.frames = some (env :: outer)) (hg : A.guards = some []) (hd : A.depth ≤ D) (hu : A.units ≤ U) (hf : env.frame = some L) (hke : env.scope.kind = .function)
    (B : Below A₀ base outer h₀) (F : Fr h₀ L s.heap m) (X : K.In h₀) (N : News h₀ L s.heap news) (T : Top p loose mean mg mb h₀)
    (hn : ∀ q ∈ nn, q ∈ news) (hr : Rst (nn.map (·.1)) news rest)
    (ret : ∀ v nn' h' tk', Post v nn' → Fr h₀ L h' m → News h₀ L h' (nn' ++ rest) → (∀ q ∈ nn', q.1 ∈ nn.map (·.1) ∨ ∀ r ∈ rest, r.1 ≠ q.1) → Q v { s with heap := h', toks := tk' }) :
    wpAny (model prog w) A (call (.ref f) args) Q E s := by
  refine S p loose mean mg mb env outer A₀ A base h₀ L m s Q E hh hA hg hd hu hf hke B F X (fun q hq => N q (hn q hq)) T ?_
  intro v nn' h' tk' hp F' N' Kp fr
  refine ret v nn' h' tk' hp F' (rejoin N N' Kp hr) fun q hq => ?_
  rcases fr q hq with h | h
  · exact .inl h
  · refine .inr fun r hm e => ?_
    have := (N r (hr.out r hm).1).1
    rw [e, h] at this
    cases this

/-- a contract that reads alone -/
theorem spec_ro {p : Program} {loose : List Str} {mean : ExcName → Option Value} {mg mb : Str → Option Value} {env : Env} {outer : List Env} {A₀ A : Around} {base h₀ : Heap} {L : Addr} {m : Str → Option Value} {s : Shared} {Q E : Value → Shared → Prop} {news : Ledger} {P : Value → Prop}
    (S : Spec prog w K D U f args nn (fun v nn' => P v ∧ nn' = nn)) (hh : A.handled = none) (hA : A.frames = some (env :: outer)) (hg : A.guards = some []) (hd : A.depth ≤ D) (hu : A.units ≤ U) (hf : env.frame = some L) (hke : env.scope.kind = .function)
    (B : Below A₀ base outer h₀) (F : Fr h₀ L s.heap m) (X : K.In h₀) (N : News h₀ L s.heap news) (T : Top p loose mean mg mb h₀)
    (hn : ∀ q ∈ nn, q ∈ news)
    (ret : ∀ v h' tk', P v → Fr h₀ L h' m → News h₀ L h' news → Q v { s with heap := h', toks := tk' }) :
    wpAny (model prog w) A (call (.ref f) args) Q E s := by
  refine S p loose mean mg mb env outer A₀ A base h₀ L m s Q E hh hA hg hd hu hf hke B F X (fun q hq => N q (hn q hq)) T ?_
  rintro v nn' h' tk' ⟨hp, rfl⟩ F' N' Kp fr
  refine ret v h' tk' hp F' fun q hq => ?_
  by_cases hm : q.1 ∈ nn'.map (·.1)
  · obtain ⟨r, hr, e⟩ := List.mem_map.mp hm
    have h1 := N' r hr
    have h2 := N q hq
    have h3 := N r (hn r hr)
    rw [e, h2.1] at h3
    have : q.2 = r.2 := Option.some.inj h3.1
    rw [e, ← this] at h1
    exact ⟨h1.1, h2.2⟩
  · exact ⟨Kp _ _ (N q hq).1 hm, (N q hq).2⟩

theorem spec_use' {p : Program} {loose : List Str} {mean : ExcName → Option Value} {mg mb : Str → Option Value} {env : Env} {outer : List Env} {A₀ A : Around} {base h₀ : Heap} {L : Addr} {m : Str → Option Value} {s : Shared} {Q E : Value → Shared → Prop} {news rest : Ledger} {as : List Addr}
    (S : Spec prog w K D U f args nn Post) (hh : A.handled = none) (hA : A.frames = some (env :: outer)) (hg : A.guards = some []) (hd : A.depth ≤ D) (hu : A.units ≤ U) (hf : env.frame = some L) (hke : env.scope.kind = .function)
    (B : Below A₀ base outer h₀) (F : Fr h₀ L s.heap m) (X : K.In h₀) (N : News h₀ L s.heap news) (T : Top p loose mean mg mb h₀)
    (hn : ∀ q ∈ nn, q ∈ news) (has : nn.map (·.1) = as) (hr : Rst as news rest)
    (ret : ∀ v nn' h' tk', Post v nn' → Fr h₀ L h' m → News h₀ L h' (nn' ++ rest) → (∀ q ∈ nn', q.1 ∈ as ∨ ∀ r ∈ rest, r.1 ≠ q.1) → Q v { s with heap := h', toks := tk' }) :
    wpAny (model prog w) A (call (.ref f) args) Q E s := by
  subst has
  exact spec_use S hh hA hg hd hu hf hke B F X N T hn hr ret
theorem notin_cons {a b : Addr} {l : List Addr} (h : @Ne Nat a b) (k : a ∉ l) : a ∉ b :: l := fun q => (List.mem_cons.mp q).elim h k

theorem spec_of {name qual : Str} {params : Arguments} {body : List Stmt} {scope : Scope} {dV kV doc pm cdv ct oc : Value} {an od : Option Addr} {osl : Array (Option Value)} {binds : List (Str × Value)}
    (ho : K.lookup f = some ⟨oc, od, .func (fnOf name qual params body scope dV kV doc pm an cdv ct), osl⟩) (hcd : codeIn K cdv qual = true)
    (hroom : D < recursionLimit) (hbind : ∀ s : Shared, K.In s.heap → BindsTo s (fnOf name qual params body scope dV kV doc pm an cdv ct) ⟨args, []⟩ binds) (hloc : ∀ y ∈ binds, scope.names.lookup y.1 = some .local)
    (hco : scope.isCoroutine = false) (hgen : scope.isGenerator = false) (hk : scope.kind = .function) (hcell : ∀ x ∈ scope.names, x.2 ≠ .cell)
    (h : ∀ (p : Program) (loose : List Str) (mean : ExcName → Option Value) (mg mb : Str → Option Value) (outer : List Env) (A₀ : Around) (base g : Heap) (L' : Addr) (h₁ : Heap) (s : Shared) (tk : Nat) (Q : Flow → Shared → Prop),
      Below A₀ base outer g → Fr g L' h₁ (fun y => binds.reverse.lookup y) → K.In g → News g L' h₁ nn → Top p loose mean mg mb g → (∀ q ∈ nn, q.1 < L') →
      (∀ fl v nn' h' tk' m', (match fl with | .ret v => v | _ => .none) = v → Post v nn' → Fr g L' h' m' → News g L' h' nn' → Q fl { s with heap := h', toks := tk' }) →
      wpAny (model prog w) { handled := none, depth := D + 1, frames := some (envOf qual scope L' f cdv :: outer), guards := some [], units := U + 3 } (execs body (envOf qual scope L' f cdv)) Q (fun _ _ => False) { s with heap := h₁, toks := tk }) :
    Spec prog w K D U f args nn Post := by
  intro p loose mean mg mb env outer A₀ A base h₀ L m s Q E hh hA hg hd hu hf hke B F X N T ret
  refine wpAny_call ?_
  obtain ⟨FG, BG, st, lv⟩ := groundX (R := fun r s' => match r with | .ok (.ret v) => Q v s' | .ok _ => False | .error e => E e s') B F N hA hf hke
  refine codeAny_call_def (fd := fnOf name qual params body scope dV kV doc pm an cdv ct) (body := body) (binds := binds) (Nat.lt_of_le_of_lt hd hroom) ((X.keeps F.keep) _ _ ho) rfl (T.nolimit.keeps F.keep) (codeRec_of (X.keeps F.keep) hcd) rfl (hbind s (X.keeps F.keep)) hcell hloc (fun h₁ hns hk₁ => ?_) hco hgen hk
  have W := h p loose mean mg mb (env :: outer) A base _ s.heap.objs.size h₁ s (s.toks + binds.length) (fun fl s' => Q (match fl with | .ret v => v | _ => .none) s') BG
    ⟨hns, fun b o e => hk₁ b o (of_hideAll _ e), Nat.le_of_eq (hideAll_size _ _)⟩ (X.keeps st)
    (fun p hp => ⟨hk₁ _ _ (N p hp).1, Nat.ne_of_lt (Heap.lt_size (N p hp).1), hideAll_none _ (List.mem_map_of_mem hp)⟩) (T.keeps st) (fun p hp => Heap.lt_size (N p hp).1) ?_
  · refine wpAny_mono (wpAny_up W ?_ ?_ ?_ ?_ ?_) (fun fl s' q => q) (fun e s' q => q.elim)
    · exact hh
    · show A.frames.map _ = _; rw [hA]; rfl
    · exact hg
    · exact Nat.succ_le_succ hd
    · exact Nat.add_le_add_right hu 3
  · intro fl v nn' h' tk' m' hv hp F' N'
    have back := lv v { s with heap := h', toks := tk' } ⟨_, m', nn', F', N', fun kF kN => ?_⟩
    · rw [hv]; exact back
    · refine ret v nn' h' tk' hp kF kN (fun b o hb hn => F'.keep b o (hideAll_get _ hb hn)) fun q hq => ?_
      by_cases hm : q.1 ∈ nn.map (·.1)
      · exact .inl hm
      · refine .inr ?_
        cases e : s.heap.get? q.1 with
        | none => rfl
        | some o =>
          have := (N' q hq).2.2
          rw [hideAll_get _ e hm] at this
          cases this
end
end PartMB
section PartMR
/-- every object keeps its own dict -/
def SameD (h h' : Heap) : Prop := ∀ b o, h.get? b = some o → ∃ o', h'.get? b = some o' ∧ o'.dict = o.dict
theorem SameD.refl (h : Heap) : SameD h h := fun _ o e => ⟨o, e, rfl⟩
theorem SameD.trans {a b c : Heap} (x : SameD a b) (y : SameD b c) : SameD a c := fun q o e => by
  obtain ⟨o1, e1, d1⟩ := x q o e
  obtain ⟨o2, e2, d2⟩ := y q o1 e1
  exact ⟨o2, e2, d2.trans d1⟩
theorem SameD.update (h : Heap) (a : Addr) (f : Obj → Obj) (hf : ∀ o, (f o).isFreed = o.isFreed ∧ (f o).dict = o.dict) : SameD h (h.update a f) := fun b o e => by
  by_cases q : a = b
  · subst q
    exact ⟨f o, Heap.get?_update_self f e ((hf o).1.trans (Heap.get?_some_iff.mp e).2), (hf o).2⟩
  · exact ⟨o, (Heap.get?_update_other h f q).trans e, rfl⟩
theorem SameD.push (h : Heap) (o : Obj) : SameD h (h.push o) := fun _ x e => ⟨x, Heap.get?_push_of_some o e, rfl⟩
theorem mapFields_same (f : Array Value → Array Value) (o : Obj) : (Obj.mapFields f o).isFreed = o.isFreed ∧ (Obj.mapFields f o).dict = o.dict := by
  obtain ⟨_, _, dt, _⟩ := o
  cases dt <;> exact ⟨rfl, rfl⟩
theorem slots_same (sl : Obj → Array (Option Value)) (o : Obj) : ({ o with slots := sl o } : Obj).isFreed = o.isFreed ∧ ({ o with slots := sl o } : Obj).dict = o.dict := by
  obtain ⟨_, _, dt, _⟩ := o
  cases dt <;> exact ⟨rfl, rfl⟩

structure KD {α : Type} (t : Sem α) : Prop where
  out : ∀ (M : Model) (Γ : Ctx) (P : α → Pos → Shared → Prop) (Ee : Value → Pos → Shared → Prop) (p : Pos) (s : Shared), Sem.wp M Γ t P Ee p s → Sem.wp M Γ t (fun v p' s' => P v p' s' ∧ SameD s.heap s'.heap) Ee p s
namespace KD
variable {α β : Type}
theorem pure (a : α) : KD (Pure.pure a : Sem α) := ⟨fun _ _ _ _ _ s h => ⟨h, SameD.refl s.heap⟩⟩
theorem unsupported (w : String) : KD (PySem.unsupported w : Sem α) := ⟨fun _ _ _ _ _ _ h => h⟩
theorem bind {m : Sem α} {f : α → Sem β} (hm : KD m) (hf : ∀ a, KD (f a)) : KD (m >>= f) := ⟨fun M Γ P Ee p s h => by
  rw [Sem.wp_bind'] at h ⊢
  refine Sem.wp_mono M Γ m (fun a p' s' h' => ?_) (fun _ _ _ x => x) p s (hm.out M Γ _ Ee p s h)
  exact Sem.wp_mono M Γ _ (fun v p2 s2 h2 => ⟨h2.1, h'.2.trans h2.2⟩) (fun _ _ _ x => x) p' s' ((hf a).out M Γ P Ee p' s' h'.1)⟩
theorem ite {c : Prop} [Decidable c] {t u : Sem α} (ht : KD t) (hu : KD u) : KD (if c then t else u) := by split <;> assumption
theorem load (a : Addr) : KD (PySem.load a) := ⟨fun M Γ P Ee p s h => by
  unfold PySem.load at h ⊢
  rw [Sem.wp_load] at h ⊢
  obtain ⟨o, ho, h⟩ := h
  rw [Sem.wp_pure] at h
  exact ⟨o, ho, by rw [Sem.wp_pure]; exact ⟨h, SameD.refl _⟩⟩⟩
theorem update (a : Addr) (f : Obj → Obj) (hf : ∀ o, (f o).isFreed = o.isFreed ∧ (f o).dict = o.dict) : KD (PySem.update a f) := ⟨fun M Γ P Ee p s h => by
  unfold PySem.update at h ⊢
  rw [Sem.wp_update] at h ⊢
  obtain ⟨ho, h⟩ := h
  rw [Sem.wp_pure] at h
  exact ⟨ho, by rw [Sem.wp_pure]; exact ⟨h, SameD.update _ _ _ hf⟩⟩⟩
theorem stack : KD PySem.stack := ⟨fun M Γ P Ee p s h => by
  unfold PySem.stack at h ⊢
  rw [Sem.wp_stack] at h ⊢
  rw [Sem.wp_pure] at h ⊢
  exact ⟨h, SameD.refl _⟩⟩
theorem alloc (o : Obj) : KD (PySem.alloc o) := ⟨fun M Γ P Ee p s h => by
  unfold PySem.alloc at h ⊢
  rw [Sem.wp_alloc] at h ⊢
  rw [Sem.wp_pure] at h ⊢
  exact ⟨h, SameD.push _ _⟩⟩
theorem field (v : Value) (i : Nat) : KD (PySem.field v i) := ⟨fun M Γ P Ee p s h => by
  rw [wp_field_iff] at h ⊢
  obtain ⟨a, o, vs, x, e, ho, hd, hx, h⟩ := h
  exact ⟨a, o, vs, x, e, ho, hd, hx, h, SameD.refl _⟩⟩
theorem setField (v : Value) (i : Nat) (x : Value) : KD (PySem.setField v i x) := ⟨fun M Γ P Ee p s h => by
  rw [wp_setField_iff] at h ⊢
  obtain ⟨a, o, vs, e, ho, hd, hi, h⟩ := h
  exact ⟨a, o, vs, e, ho, hd, hi, h, SameD.update _ _ _ (mapFields_same _)⟩⟩
theorem any {M : Model} {A : Around} {t : Sem α} {Q : α → Shared → Prop} {E : Value → Shared → Prop} {s : Shared} (k : KD t) (h : wpAny M A t Q E s) : wpAny M A t (fun v s' => Q v s' ∧ SameD s.heap s'.heap) E s :=
  fun Γ p hΓ => k.out M Γ _ _ p s (h Γ p hΓ)
end KD
theorem word_1 : True := by
  k_with_none
  (k_with "my keepdicts" => (repeat' with_reducible first | assumption | exact KD.pure _ | exact KD.unsupported _ | exact KD.field _ _ | exact KD.setField _ _ _ | exact KD.load _ | exact KD.update _ _ (slots_same _) | exact KD.stack | exact KD.alloc _ | apply KD.ite | apply KD.bind | intro _ | split))
  trivial
theorem kd_behindIsImport (env : Env) (outer : List Env) : KD (behindIsImport env outer) := by
  unfold behindIsImport
  k_extra "my keepdicts"
theorem kd_underTheClaimsCaller : KD underTheClaimsCaller := by
  unfold underTheClaimsCaller
  k_extra "my keepdicts"
theorem kd_keptBack (env : Env) (i : Bool) (l : List Env) : KD (keptBack env i l) := by
  have := kd_underTheClaimsCaller
  cases l <;> unfold keptBack <;> k_extra "my keepdicts"
theorem kd_readyFrames : ∀ l : List Env, KD (readyFrames l)
  | [] => KD.pure _
  | env :: outer => by
    have ih := kd_readyFrames outer
    have h1 := kd_behindIsImport env outer
    have h2 := fun i => kd_keptBack env i outer
    have h3 : ∀ (f : Addr) (x : Value), KD (PySem.update f fun o => { o with slots := #[some env.code, some (.ref env.globals), o.slots.getD 2 none, some x, o.slots.getD 4 none, env.func.map Value.ref, some (.ref env.builtins)] ++ (env.cells.map fun c => some (.ref c.2)).toArray }) :=
      fun f x => KD.update _ _ (slots_same fun o => #[some env.code, some (.ref env.globals), o.slots.getD 2 none, some x, o.slots.getD 4 none, env.func.map Value.ref, some (.ref env.builtins)] ++ (env.cells.map fun c => some (.ref c.2)).toArray)
    unfold readyFrames
    k_extra "my keepdicts"
    all_goals first | exact h2 _ | exact h3 _ _ | skip
theorem kd_frameObject (l : List Env) : KD (frameObject l) := by
  cases l with
  | nil => exact KD.pure _
  | cons env outer =>
    have := kd_readyFrames (env :: outer)
    unfold frameObject
    k_extra "my keepdicts"
theorem kd_frameEnvs : KD frameEnvs := by
  unfold frameEnvs
  k_extra "my keepdicts"
theorem kd_frameOf (env : Env) : KD (PySem.frameOf env) := by
  have h1 := kd_frameEnvs
  have h2 := kd_frameObject
  unfold PySem.frameOf
  k_extra "my keepdicts"
  all_goals first | exact h2 _ | skip
theorem kd_entryPlaceOf (f : Addr) (hadNext : Bool) : KD (entryPlaceOf f hadNext) := by
  unfold entryPlaceOf
  k_extra "my keepdicts"
theorem kd_newFields (l : List Value) : KD (newFields "traceback" l) := by
  unfold newFields newObj newObjAsIs
  k_extra "my keepdicts"
theorem kd_setFlight (e : Value) (f : Option Addr) : KD (setFlight e f) := by
  unfold setFlight
  k_extra "my keepdicts"
theorem kd_noteFrame (e : Value) (env : Env) : KD (noteFrame e env) := by
  have h1 := kd_frameOf
  have h2 := kd_entryPlaceOf
  unfold noteFrame EntryCells.newEntry
  have h3 := kd_newFields
  k_extra "my keepdicts"
  all_goals first | exact h1 _ | exact h2 _ _ | exact h3 _ | skip
theorem kd_leaving (env : Env) (e : Value) : KD (leaving env e) := by
  unfold leaving
  exact KD.bind (kd_noteFrame e env) fun _ => kd_setFlight e none
end PartMR
section PartME
def NsO (o : Obj) (mA : Str → Option Value) : Prop := ∃ es ep, o.data = .dict es ep ∧ StrKeys es ∧ UniqKeys es ∧ ∀ name, nsFind es name = mA name
theorem NsO.ns1 {o : Obj} {mA : Str → Option Value} {h : Heap} {d : Addr} (x : NsO o mA) (e : h.get? d = some o) : h.Ns1 d mA := let ⟨es, ep, a, b⟩ := x; ⟨o, es, ep, e, a, b⟩
def SymD (o : Obj) : Prop := ∃ mA t, NsO o mA ∧ mA (Str.ofString "symbol") = some (.str (Str.ofString "overflow-error") t)
abbrev frs (l : List Env) : List Addr := l.filterMap (·.frame)

/-- an exception of the class 179 that has left all frames but those of l, on its way; d is its dict -/
structure Flown (g : Heap) (l : List Env) (e d : Addr) (h' : Heap) : Prop where
  body : ∃ B a0 dob, (∀ b o, g.get? b = some o → b ∉ frs l → B.get? b = some o) ∧ Heap.FlyingW B l e (.ref 179) a0 h' ∧ B.get? d = some dob ∧ SymD dob ∧ d ≠ e
  up : g.UpToSlots h'
  dct : ∃ oe, h'.get? e = some oe ∧ oe.dict = some d
  fresh : g.get? e = none ∧ g.get? d = none

theorem Flown.ground {g G h' : Heap} {l : List Env} {e d : Addr} (x : Flown G l e d h') (k : ∀ b o, g.get? b = some o → G.get? b = some o) : Flown g l e d h' := by
  obtain ⟨⟨B, a0, dob, h1, h2⟩, h3, h4, h5, h6⟩ := x
  exact ⟨⟨B, a0, dob, fun b o e n => h1 b o (k b o e) n, h2⟩, fun b o e n => h3 b o (k b o e) n, h4, kts_none k h5, kts_none k h6⟩

section
variable {M : Model} {A A₀ : Around} {E : Value → Shared → Prop} {s' : Shared} {base g : Heap} {outer : List Env} {L a e d : Addr} {m : Str → Option Value} {name : Str} {scope : Scope} {cd : Value} {Q : Unit → Shared → Prop}

theorem flown_first {oe dob : Obj} {vs : Array Value} {a0 : Value} (hA : A.frames = some (envOf name scope L a cd :: outer)) (K : Below A₀ base outer g) (F : Fr g L s'.heap m) (hk : scope.kind = .function)
    (he : s'.heap.get? e = some oe) (hc : oe.cls = .ref 179) (hd : oe.data = .fields vs) (h1 : vs[1]? = some .none) (h0 : vs[0]? = some a0) (hdd : oe.dict = some d) (hdo : s'.heap.get? d = some dob) (hs : SymD dob)
    (hne : g.get? e = none) (hnd : g.get? d = none) (hdL : d ≠ L) (hde : d ≠ e)
    (hQ : ∀ h', Flown g outer e d h' → Q () { s' with heap := h' }) : wpAny M A (leaving (envOf name scope L a cd) (.ref e)) Q E s' := by
  have K' := K.push (name := name) (a := a) (cd := cd) F hk
  have ho : ∀ b ∈ frs outer, ∃ o, g.get? b = some o := fun b hb => by
    obtain ⟨_, o, ho, _⟩ := K.frames.mem hb
    exact ⟨o, ho⟩
  have nf : ∀ b, g.get? b = none → b ∉ frs outer := fun b hb hm => by
    obtain ⟨o, q⟩ := ho b hm
    rw [hb] at q; cases q
  have hdo' : (hideAll s'.heap (e :: L :: frs outer)).get? d = some dob := hideAll_get _ hdo fun hm => by
    rcases List.mem_cons.mp hm with q | hm
    · exact hde q
    · rcases List.mem_cons.mp hm with q | hm
      · exact hdL q
      · exact nf d hnd hm
  have W := KD.any (kd_leaving (envOf name scope L a cd) (.ref e)) (wpAny_leaving_firstW (M := M) (A := A) (E := E) (s := s') (base := hideAll s'.heap (e :: L :: frs outer)) (a0 := a0) (vs := vs) (outer := outer) (L := L)
    (Q := fun _ s'' => s'' = { s' with heap := s''.heap } ∧ Heap.LeftW (hideAll s'.heap (e :: L :: frs outer)) (envOf name scope L a cd :: outer) e oe.cls a0 s'.heap s''.heap) hA
    (funFrames_hide K'.frames fun env hm b hb => by
      rcases List.mem_cons.mp hm with rfl | hm
      · exact (Option.some.inj hb) ▸ List.mem_cons.mpr (.inr (.head _))
      · exact List.mem_cons.mpr (.inr (.tail _ (List.mem_filterMap.mpr ⟨env, hm, hb⟩)))) rfl he (fun b o q => of_hideAll _ q) (hideAll_none _ (.head _)) hd h1 h0 fun h' hL => ⟨rfl, hL⟩)
  refine wpAny_mono W (fun _ s'' q => ?_) fun _ _ x => x
  obtain ⟨⟨e1, k1, ⟨_, _, k2⟩, k3, k4⟩, hsd⟩ := q
  rw [e1]
  obtain ⟨o', ho', hdt⟩ := hsd e oe he
  refine hQ _ ⟨⟨_, a0, dob, fun b o q nm => hideAll_get _ (F.keep b o q) fun hm => ?_, ⟨k1, hideAll_none _ (.head _), k2, hc ▸ k3⟩, hdo', hs, hde⟩, fun b o q hn => k4 b o (F.keep b o q) hn, ⟨o', ho', hdt.trans hdd⟩, hne, hnd⟩
  rcases List.mem_cons.mp hm with z | hm
  · rw [z, hne] at q; cases q
  · rcases List.mem_cons.mp hm with z | hm
    · rw [z, kts_self F] at q; cases q
    · exact nm hm

theorem flown_on {G h : Heap} (hA : A.frames = some (envOf name scope L a cd :: outer)) (F : Fr g L h m) (R : Flown G (envOf name scope L a cd :: outer) e d s'.heap) (hG : ∀ b o, g.get? b = some o → G.get? b = some o)
    (hQ : ∀ h', Flown g outer e d h' → Q () { s' with heap := h' }) : wpAny M A (leaving (envOf name scope L a cd) (.ref e)) Q E s' := by
  obtain ⟨⟨B, a0, dob, h1, h2, h3, hs, hde⟩, hu, ⟨oe, he, hdd⟩, hf1, hf2⟩ := R
  have W := KD.any (kd_leaving (envOf name scope L a cd) (.ref e)) (wpAny_leaves_onW (M := M) (A := A) (E := E) (s := s') (L := L)
    (Q := fun _ s'' => s'' = { s' with heap := s''.heap } ∧ Heap.FlyingW B outer e (.ref 179) a0 s''.heap ∧ s'.heap.UpToSlots s''.heap) hA rfl h2 fun h' x1 x2 => ⟨rfl, x1, x2⟩)
  refine wpAny_mono W (fun _ s'' q => ?_) fun _ _ x => x
  obtain ⟨⟨e1, k1, k2⟩, hsd⟩ := q
  rw [e1]
  obtain ⟨o', ho', hdt⟩ := hsd e oe he
  refine hQ _ ⟨⟨B, a0, dob, fun b o q nm => h1 b o (hG b o q) fun hm => ?_, k1, h3, hs, hde⟩, fun b o q hn => ?_, ⟨o', ho', hdt.trans hdd⟩, kts_none hG hf1, kts_none hG hf2⟩
  · rcases kts_mem hm with z | hm
    · rw [z, kts_self F] at q; cases q
    · exact nm hm
  · obtain ⟨sl, q2⟩ := hu b o (hG b o q) hn
    obtain ⟨sl2, q3⟩ := k2 b _ q2 hn
    exact ⟨sl2, q3⟩
end

/-- a call of a def that raises the exception of the class 179 -/
def SpecR (prog : Program) (w : World) (K : Frag) (D U : Nat) (f : Addr) (args : List Value) (nn : Ledger) : Prop :=
  ∀ (p : Program) (loose : List Str) (mean : ExcName → Option Value) (mg mb : Str → Option Value) (env : Env) (outer : List Env) (A₀ A : Around) (base h₀ : Heap) (L : Addr) (m : Str → Option Value) (s : Shared) (Q : Value → Shared → Prop) (E : Value → Shared → Prop),
    A.handled = none → A.frames = some (env :: outer) → A.guards = some [] → A.depth ≤ D → A.units ≤ U → env.frame = some L → env.scope.kind = .function →
    Below A₀ base outer h₀ → Fr h₀ L s.heap m → K.In h₀ → News h₀ L s.heap nn → Top p loose mean mg mb h₀ →
    (∀ e d h' tk', Flown (hideAll s.heap (nn.map (·.1))) (env :: outer) e d h' → E (.ref e) { s with heap := h', toks := tk' }) →
    wpAny (model prog w) A (call (.ref f) args) Q E s

abbrev Lv (prog : Program) (w : World) (A : Around) (env : Env) (E' : Value → Shared → Prop) : Value → Shared → Prop :=
  fun e s' => wpAny (model prog w) A (leaving env e) (fun _ s'' => E' e s'') (fun e' s'' => E' e' s'') s'

section
variable {prog : Program} {w : World} {K : Frag} {D U : Nat} {f : Addr} {args : List Value} {nn : Ledger}

theorem specR_use {p : Program} {loose : List Str} {mean : ExcName → Option Value} {mg mb : Str → Option Value} {name : Str} {scope : Scope} {L a : Addr} {cd : Value} {outer : List Env} {A₀ A : Around} {base h₀ : Heap} {m : Str → Option Value} {s : Shared} {Q : Value → Shared → Prop} {E' : Value → Shared → Prop} {news : Ledger}
    (S : SpecR prog w K D U f args nn) (hh : A.handled = none) (hA : A.frames = some (envOf name scope L a cd :: outer)) (hg : A.guards = some []) (hd : A.depth ≤ D) (hu : A.units ≤ U) (hke : scope.kind = .function)
    (B : Below A₀ base outer h₀) (F : Fr h₀ L s.heap m) (X : K.In h₀) (N : News h₀ L s.heap news) (T : Top p loose mean mg mb h₀)
    (hn : ∀ q ∈ nn, q ∈ news)
    (rai : ∀ e d h' tk', Flown h₀ outer e d h' → E' (.ref e) { s with heap := h', toks := tk' }) :
    wpAny (model prog w) A (call (.ref f) args) Q (Lv prog w A (envOf name scope L a cd) E') s := by
  refine S p loose mean mg mb _ outer A₀ A base h₀ L m s Q _ hh hA hg hd hu rfl hke B F X (fun q hq => N q (hn q hq)) T ?_
  intro e d h' tk' R
  refine flown_on hA F R (fun b o q => hideAll_get _ (F.keep b o q) fun hm => ?_) fun h'' R' => rai e d h'' tk' R'
  obtain ⟨p, hp, rfl⟩ := List.mem_map.mp hm
  rw [(N p (hn p hp)).2.2] at q; cases q

theorem specR_of {name qual : Str} {params : Arguments} {body : List Stmt} {scope : Scope} {dV kV doc pm cdv ct oc : Value} {an od : Option Addr} {osl : Array (Option Value)} {binds : List (Str × Value)}
    (ho : K.lookup f = some ⟨oc, od, .func (fnOf name qual params body scope dV kV doc pm an cdv ct), osl⟩) (hcd : codeIn K cdv qual = true)
    (hroom : D < recursionLimit) (hbind : ∀ s : Shared, K.In s.heap → BindsTo s (fnOf name qual params body scope dV kV doc pm an cdv ct) ⟨args, []⟩ binds) (hloc : ∀ y ∈ binds, scope.names.lookup y.1 = some .local)
    (hco : scope.isCoroutine = false) (hgen : scope.isGenerator = false) (hk : scope.kind = .function) (hcell : ∀ x ∈ scope.names, x.2 ≠ .cell)
    (h : ∀ (p : Program) (loose : List Str) (mean : ExcName → Option Value) (mg mb : Str → Option Value) (outer : List Env) (A₀ : Around) (base g : Heap) (L' : Addr) (h₁ : Heap) (s : Shared) (tk : Nat) (E' : Value → Shared → Prop),
      Below A₀ base outer g → Fr g L' h₁ (fun y => binds.reverse.lookup y) → K.In g → News g L' h₁ nn → Top p loose mean mg mb g → (∀ q ∈ nn, q.1 < L') →
      (∀ e d h' tk', Flown g outer e d h' → E' (.ref e) { s with heap := h', toks := tk' }) →
      wpAny (model prog w) { handled := none, depth := D + 1, frames := some (envOf qual scope L' f cdv :: outer), guards := some [], units := U + 3 } (execs body (envOf qual scope L' f cdv)) (fun _ _ => False)
        (Lv prog w { handled := none, depth := D + 1, frames := some (envOf qual scope L' f cdv :: outer), guards := some [], units := U + 3 } (envOf qual scope L' f cdv) E') { s with heap := h₁, toks := tk }) :
    SpecR prog w K D U f args nn := by
  intro p loose mean mg mb env outer A₀ A base h₀ L m s Q E hh hA hg hd hu hf hke B F X N T rai
  refine wpAny_call ?_
  obtain ⟨FG, BG, st, lv⟩ := groundX (R := fun r s' => match r with | .ok (.ret v) => Q v s' | .ok _ => False | .error e => E e s') B F N hA hf hke
  refine codeAny_call_def (fd := fnOf name qual params body scope dV kV doc pm an cdv ct) (body := body) (binds := binds) (Nat.lt_of_le_of_lt hd hroom) ((X.keeps F.keep) _ _ ho) rfl (T.nolimit.keeps F.keep) (codeRec_of (X.keeps F.keep) hcd) rfl (hbind s (X.keeps F.keep)) hcell hloc (fun h₁ hns hk₁ => ?_) hco hgen hk
  have W := h p loose mean mg mb (env :: outer) A base _ s.heap.objs.size h₁ s (s.toks + binds.length) E BG
    ⟨hns, fun b o e => hk₁ b o (of_hideAll _ e), Nat.le_of_eq (hideAll_size _ _)⟩ (X.keeps st)
    (fun p hp => ⟨hk₁ _ _ (N p hp).1, Nat.ne_of_lt (Heap.lt_size (N p hp).1), hideAll_none _ (List.mem_map_of_mem hp)⟩) (T.keeps st) (fun p hp => Heap.lt_size (N p hp).1) rai
  have up : ∀ {α : Type} {t : Sem α} {Q' : α → Shared → Prop} {E'' : Value → Shared → Prop} {s' : Shared}, wpAny (model prog w) { handled := none, depth := D + 1, frames := some (envOf qual scope s.heap.objs.size f cdv :: env :: outer), guards := some [], units := U + 3 } t Q' E'' s' →
      wpAny (model prog w) (A.deeper (envOf qual scope s.heap.objs.size f cdv)) t Q' E'' s' := fun x => by
    refine wpAny_up x ?_ ?_ ?_ ?_ ?_
    · exact hh
    · show A.frames.map _ = _; rw [hA]; rfl
    · exact hg
    · exact Nat.succ_le_succ hd
    · exact Nat.add_le_add_right hu 3
  exact wpAny_mono (up W) (fun _ _ q => q.elim) (fun e s' q => up q)
end
end PartME
section PartMD
theorem word_2 : True := by
  k_with_none
  (k_with "my e0" => (((case ho | hcd => k_is); (case hr => decide); (case hb => first | exact fun s X => BindsTo.of_eq rfl | exact fun s X => binds_K X rfl (by k_is) rfl rfl rfl); (case hl => exact locs rfl); (case c1 | c2 | c3 => exact rfl); (case c4 => decide))))
  (k_with "my enter" => ((k_dflt (refine' spec_of ?ho ?hcd ?hr ?hb ?hl ?c1 ?c2 ?c3 ?c4 ?_; k_extra "my e0"))))
  (k_with "my enterR" => ((k_dflt (refine' specR_of ?ho ?hcd ?hr ?hb ?hl ?c1 ?c2 ?c3 ?c4 ?_; k_extra "my e0"))))
  (k_with "my rst" => (first | exact Rst.nil | exact Rst.all (fun _ _ => List.not_mem_nil) | exact Rst.all hown9 | (refine' Rst.drop ?ra ?rb; (case ra => k_extra "my in"); (case rb => k_extra "my rst")) | (refine' Rst.keep ?ra ?rb; (case ra => k_extra "my notin"); (case rb => k_extra "my rst"))))
  (k_with "my c1" => (((case a1 | a2 | a3 => exact rfl); (case a4 | a5 => exact Nat.le_of_ble_eq_true rfl))))
  (k_with "my c2" => (((case a7 => first | exact rfl | assumption); (case B | F | X | N | T => k_asm))))
  (k_with "my c4" => ((k_extra "my c1"; (case a6 => exact rfl); k_extra "my c2")))
  (k_with "my c3" => (((case hn => k_extra "my mem"); (case has => exact rfl); (case hr => k_extra "my rst"))))
  (k_with "eval Constant int" => ((refine wpAny_Constant_int ?_; (try dsimp only))))
  (k_with "evalPairs" => ((first | (refine pairTrees_cons_walk ?_; (try dsimp only)) | (refine pairTrees_nil_walk ?_; (try dsimp only)))))
  (k_with "my mem" => (first | exact List.forall_mem_nil _ | (refine' List.forall_mem_cons.mpr ⟨?ma, ?mb⟩; (case ma => k_mem); (case mb => k_extra "my mem"))))
  (k_with "my notin" => (first | exact List.not_mem_nil | (refine' notin_cons ?na ?nb; (case na => ((try dsimp only); first | k_extra "my ne" | omega)); (case nb => k_extra "my notin"))))
  (k_with "my in" => (first | exact List.Mem.head _ | (refine' List.Mem.tail _ ?_; k_extra "my in")))
  (k_with "my post" => (((try k_sweep); (try dsimp only); (try k_fold))))
  trivial
def DeckOk (cs : List Int) (mm : Int) : Prop := (∀ c ∈ cs, 0 ≤ c) ∧ cs.length ≤ 63 ∧ 0 ≤ mm ∧ mm < 2147483647

def DeckPost (C D : Addr) (many : Int) (v : Value) (nn' : Ledger) : Prop :=
  ∃ (x : Int) (tx : Tok) (vs' : List Value) (cs' : List Int) (nC' : Nat) (mm' : Int) (t' : Tok) (nD' : Nat), v = .int x tx ∧ nn' = [(C, listOf vs'.toArray nC'), (D, listOf #[.ref C, .int mm' t'] nD')] ∧
    0 ≤ x ∧ x < many ∧ IntsAre vs' cs' ∧ DeckOk cs' mm'

theorem ints_cases {vs : List Value} {cs : List Int} (h : IntsAre vs cs) : (vs = [] ∧ cs = []) ∨ ∃ n t vs' cs', vs = .int n t :: vs' ∧ cs = n :: cs' ∧ IntsAre vs' cs' := by
  cases h with
  | nil => exact .inl ⟨rfl, rfl⟩
  | cons n t h => exact .inr ⟨n, t, _, _, rfl, rfl, h⟩
theorem deck_len {vs : List Value} {cs : List Int} {c mm : Int} (h : IntsAre vs cs) (hok : DeckOk (c :: cs) mm) : vs.length ≤ 62 := by
  have := h.length
  have h2 := hok.2.1
  simp only [List.length_cons] at h2
  omega
theorem pop0 {prog : Program} {w : World} {A : Around} {E : Value → Shared → Prop} {s : Shared} {h₀ : Heap} {L D : Addr} {m : Str → Option Value} {news news' : Ledger} {x : Value} {r : List Value} {n : Nat} {u : Tok} {Q : Value → Shared → Prop}
    (F : Fr h₀ L s.heap m) (N : News h₀ L s.heap news) (U : Upd D (listOf (x :: r).toArray n) (listOf r.toArray (n + 1)) news news') (hz : r.length + 1 ≤ sizeLine)
    (h : ∀ h', Fr h₀ L h' m → News h₀ L h' news' → Q x { s with heap := h' }) : wpAny (model prog w) A (call (.builtin "list.pop") [.ref D, .int 0 u]) Q E s :=
  kl_popAt (k := 0) (p := []) (q := r) (y := x) F N rfl (by simp [seqIndex?]) rfl U hz h
theorem deck_tail {cs : List Int} {c mm : Int} (hok : DeckOk (c :: cs) mm) : DeckOk cs mm :=
  ⟨fun x hx => hok.1 x (.tail _ hx), Nat.le_trans (Nat.le_succ _) hok.2.1, hok.2.2⟩
theorem draw_endA {C D : Addr} {many mm : Int} {nC nD : Nat} {t t' : Tok} (h1 : 1 ≤ many) :
    DeckPost C D many (.int ((((mm * 48271 + 11).fmod 2147483647).fdiv 64).fmod many) t) [(C, listOf #[] nC), (D, listOf #[.ref C, .int ((mm * 48271 + 11).fmod 2147483647) t'] nD)] :=
  ⟨_, _, [], [], _, _, _, _, rfl, rfl, Int.fmod_nonneg_of_pos _ (by omega), Int.fmod_lt_of_pos _ (by omega), .nil, (fun _ h => nomatch h), by simp, Int.fmod_nonneg_of_pos _ (by omega), Int.fmod_lt_of_pos _ (by omega)⟩
theorem draw_endB {C D : Addr} {many mm c : Int} {nC nD : Nat} {t t' t'' : Tok} {vs : List Value} {cs : List Int} (hi : IntsAre vs cs) (hok : DeckOk (c :: cs) mm) (h1 : 1 ≤ many) :
    DeckPost C D many (.int (((c :: cs).getD (Int.toNat 0) 0).fmod many) t) [(C, listOf (Value.int (((c :: cs).getD (Int.toNat 0) 0).fdiv many) t' :: vs).toArray nC), (D, listOf #[.ref C, .int mm t''] nD)] :=
  ⟨_, _, _, ((c :: cs).getD (Int.toNat 0) 0).fdiv many :: cs, _, _, _, _, rfl, rfl, Int.fmod_nonneg_of_pos _ (by omega), Int.fmod_lt_of_pos _ (by omega), .cons _ _ hi,
    ⟨fun x hx => by
      rcases List.mem_cons.mp hx with rfl | hx
      · exact Int.fdiv_nonneg (hok.1 c (.head _)) (by omega)
      · exact hok.1 x (.tail _ hx), hok.2.1, hok.2.2⟩⟩
structure DS where
  vs : List Value
  cs : List Int
  n : Nat
theorem word_3 : True := by
  (k_with "exec While BoolOp" => (( (rename Fr _ _ _ _ => lF); (rename News _ _ _ _ => lN); (with_unfolding_all refine' ksw_while (σ := DS) (fun c => [(C, listOf c.vs.toArray c.n), (D, listOf #[.ref C, .int mm t] nD)]) (fun _ => []) (fun c => IntsAre c.vs c.cs ∧ DeckOk c.cs mm) [] (fun _ => True) (fun c => c.cs.length) ⟨vs, cs, nC⟩ lF lN ⟨hi, hok⟩ (fun _ h => nomatch h) True.intro ?_); clear lF lN; intro c u h tk2 hf hp F N; obtain ⟨vs1, cs1, n1⟩ := c; obtain ⟨hi1, hok1⟩ := hf; (try dsimp only at hi1 hok1 N ⊢); rcases ints_cases hi1 with ⟨rfl, rfl⟩ | ⟨c1, t1, vs2, cs2, rfl, rfl, hi2⟩; rotate_left; (have hl2 := deck_len hi2 hok1); all_goals (try k_fold))))
  (k_with "call builtin:list.pop" => ((k_here; k_dflt (refine' pop0 ?F ?N ?U ?z ?_; (case F => k_asm); (case N => k_asm); (case U => k_upd); (case z => (rw [sizeLine_eq]; omega))); intro h' F' N'; (try dsimp only [List.nil_append, List.cons_append] at N'))))
  trivial
set_option maxRecDepth 100000 in
set_option maxHeartbeats 8000000 in
theorem draw_spec {prog : Program} {w : World} {C D : Addr} {vs : List Value} {cs : List Int} {nC : Nat} {mm : Int} {t : Tok} {nD : Nat} {many : Int} {tm : Tok}
    (hne : C ≠ D) (hi : IntsAre vs cs) (hok : DeckOk cs mm) (h1 : 1 ≤ many) (h2 : many ≤ 100000) :
    Spec prog w (hd.heap_39 w.params) 600 6000 356 [.ref D, .int many tm] [(C, listOf vs.toArray nC), (D, listOf #[.ref C, .int mm t] nD)] (DeckPost C D many) := by
  refine' spec_of (binds := [(Str.ofString "_law_deck_here", .ref D), (Str.ofString "_law_many", .int many tm)]) ?ho ?hcd ?hr ?hb ?hl ?c1 ?c2 ?c3 ?c4 ?_
  k_extra "my e0"
  intro p loose mean mg mb outer A₀ base g L' h₁ s tk Q B F X N T lt ret
  try dsimp only
  k_lt lt
  replace hne := neN hne
  k_steps
  · cases (show decide (c1 :: cs2 = []) = true by assumption)
  · exact ksw_end (⟨vs2, cs2, n1 + 1⟩ : DS) (by assumption) (by assumption) (by kcj_all) ⟨hi2, deck_tail hok1⟩ (fun _ h => nomatch h) (fun _ _ _ => rfl) True.intro (Nat.lt_succ_self _)
  · exact ret _ _ _ _ _ _ rfl (draw_endB hi2 hok1 h1) (by assumption) (cb_drop (by assumption) (by kcj_all))
  · exact ret _ _ _ _ _ _ rfl (draw_endA h1) (by assumption) (cb_drop (by assumption) (by kcj_all))
end PartMD
section PartMF
theorem word_4 : True := by
  k_with_none
  (k_with "my e0" => (((case ho | hcd => k_is); (case hr => decide); (case hb => first | exact fun s X => BindsTo.of_eq rfl | exact fun s X => binds_K X rfl (by k_is) rfl rfl rfl); (case hl => exact locs rfl); (case c1 | c2 | c3 => exact rfl); (case c4 => decide))))
  (k_with "my enter" => ((k_dflt (refine' spec_of ?ho ?hcd ?hr ?hb ?hl ?c1 ?c2 ?c3 ?c4 ?_; k_extra "my e0"))))
  (k_with "my enterR" => ((k_dflt (refine' specR_of ?ho ?hcd ?hr ?hb ?hl ?c1 ?c2 ?c3 ?c4 ?_; k_extra "my e0"))))
  (k_with "my rst" => (first | exact Rst.nil | exact Rst.all (fun _ _ => List.not_mem_nil) | exact Rst.all hown9 | (refine' Rst.drop ?ra ?rb; (case ra => k_extra "my in"); (case rb => k_extra "my rst")) | (refine' Rst.keep ?ra ?rb; (case ra => k_extra "my notin"); (case rb => k_extra "my rst"))))
  (k_with "my c1" => (((case a1 | a2 | a3 => exact rfl); (case a4 | a5 => exact Nat.le_of_ble_eq_true rfl))))
  (k_with "my c2" => (((case a7 => first | exact rfl | assumption); (case B | F | X | N | T => k_asm))))
  (k_with "my c4" => ((k_extra "my c1"; (case a6 => exact rfl); k_extra "my c2")))
  (k_with "my c3" => (((case hn => k_extra "my mem"); (case has => exact rfl); (case hr => k_extra "my rst"))))
  (k_with "eval Constant int" => ((refine wpAny_Constant_int ?_; (try dsimp only))))
  (k_with "evalPairs" => ((first | (refine pairTrees_cons_walk ?_; (try dsimp only)) | (refine pairTrees_nil_walk ?_; (try dsimp only)))))
  (k_with "my mem" => (first | exact List.forall_mem_nil _ | (refine' List.forall_mem_cons.mpr ⟨?ma, ?mb⟩; (case ma => k_mem); (case mb => k_extra "my mem"))))
  (k_with "my notin" => (first | exact List.not_mem_nil | (refine' notin_cons ?na ?nb; (case na => ((try dsimp only); first | k_extra "my ne" | omega)); (case nb => k_extra "my notin"))))
  (k_with "my in" => (first | exact List.Mem.head _ | (refine' List.Mem.tail _ ?_; k_extra "my in")))
  (k_with "my post" => (((try k_sweep); (try dsimp only); (try k_fold))))
  trivial
set_option maxRecDepth 100000 in
set_option maxHeartbeats 1500000 in
theorem sign_of_spec {prog : Program} {w : World} {c : Int} {t : Tok} {v2 : Value} (h0 : 0 ≤ c) (h1 : c < 128) :
    Spec prog w (hd.heap_39 w.params) 700 7000 245 [.int c t, v2] [] (fun v nn => (∃ t', v = .str ⟨#[c.toNat]⟩ t') ∧ nn = []) := by
  k_extra "my enter"
  intro p loose mean mg mb outer A₀ base g L' h₁ s tk Q B F X N T lt ret
  k_steps
  all_goals exact ret _ _ _ _ _ _ rfl ⟨⟨_, rfl⟩, rfl⟩ (by assumption) News.nil

def okc (c : Int) : Prop := c = 43 ∨ c = 45 ∨ c = 46 ∨ (48 ≤ c ∧ c ≤ 57) ∨ (65 ≤ c ∧ c ≤ 90) ∨ (97 ≤ c ∧ c ≤ 122)

theorem okc_break {c : Int} (h : okc c) : Value.bool (([34, 39, 59, 40, 41, 91, 93, 35, 96, 44] : List Int).any (· == c)) = .bool false := by
  have : (([34, 39, 59, 40, 41, 91, 93, 35, 96, 44] : List Int).any (· == c)) = false := by
    rw [List.any_eq_false]
    intro x hx
    simp only [List.mem_cons, List.not_mem_nil, or_false] at hx
    unfold okc at h
    simp only [beq_iff_eq]
    omega
  rw [this]
theorem word_5 : True := by
  (k_with "compareOp In int ref" => ((k_here; (with_reducible show wpAny _ _ (compareOp CmpOp.In (Value.int _ _) (Value.ref 184)) _ _ _); k_dflt (refine' in_tuple_ints (tupK (Frag.In.keeps ?X (Fr.keep ?F)) ?l) ?i ?_; (case X => k_asm); (case F => k_asm); (case l => k_is); (case i => (repeat' constructor))))))
  trivial
set_option maxRecDepth 100000 in
set_option maxHeartbeats 1500000 in
theorem is_break_spec {prog : Program} {w : World} {c : Int} {t : Tok} (h0 : okc c) :
    Spec prog w (hd.heap_39 w.params) 700 7000 191 [.int c t] [] (fun v nn => v = .bool false ∧ nn = []) := by
  k_extra "my enter"
  intro p loose mean mg mb outer A₀ base g L' h₁ s tk Q B F X N T lt ret
  have h0' := h0
  unfold okc at h0'
  k_steps
  · exfalso; omega
  · exact ret _ _ _ _ _ _ rfl ⟨okc_break h0, rfl⟩ (by assumption) News.nil


abbrev tokD (w : World) (Cd : Addr) (p : Int) (t1 t2 t3 : Tok) : Obj :=
  dictOf [⟨PyData.keyHash w.params (Str.ofString "codes"), .str (Str.ofString "codes") t1, .ref Cd⟩, ⟨PyData.keyHash w.params (Str.ofString "place"), .str (Str.ofString "place") t2, .int p t3⟩] 2
abbrev tokL (w : World) (x dx Cd : Addr) (vs : List Value) (nC : Nat) (p : Int) (t1 t2 t3 : Tok) : Ledger :=
  [(x, instObj 340 dx), (dx, tokD w Cd p t1 t2 t3), (Cd, listOf vs.toArray nC)]
def codeAt (cs : List Int) (i : Int) : Int := if i < (cs.length : Int) then cs.getD i.toNat 0 else -1

theorem codeAt_lt {cs : List Int} {p : Int} (h : p < (cs.length : Int)) : codeAt cs p = cs.getD p.toNat 0 := by unfold codeAt; rw [if_pos h]
theorem codeAt_ge {cs : List Int} {p : Int} (h : ¬ p < (cs.length : Int)) : codeAt cs p = -1 := by unfold codeAt; rw [if_neg h]
set_option maxRecDepth 100000 in
set_option maxHeartbeats 1500000 in
theorem code0_spec {prog : Program} {w : World} {x dx Cd : Addr} {vs : List Value} {cs : List Int} {nC : Nat} {p : Int} {t1 t2 t3 : Tok} (hi : IntsAre vs cs) (hp : 0 ≤ p) (hfit : cs.length ≤ 100000) :
    Spec prog w (hd.heap_39 w.params) 700 7000 267 [.ref x] (tokL w x dx Cd vs nC p t1 t2 t3) (fun v nn => (∃ t, v = .int (codeAt cs p) t) ∧ nn = tokL w x dx Cd vs nC p t1 t2 t3) := by
  k_extra "my enter"
  intro pr loose mean mg mb outer A₀ base g L' h₁ s tk Q B F X N T lt ret
  k_lt lt
  k_steps
  · exact ret _ _ _ _ _ _ rfl ⟨⟨_, by rw [codeAt_lt (by omega), Int.add_zero]⟩, rfl⟩ (by assumption) (by assumption)
  · exact ret _ _ _ _ _ _ rfl ⟨⟨_, by rw [codeAt_ge (by omega)]⟩, rfl⟩ (by assumption) (by assumption)
set_option maxRecDepth 100000 in
set_option maxHeartbeats 1500000 in
theorem code1_spec {prog : Program} {w : World} {x dx Cd : Addr} {vs : List Value} {cs : List Int} {nC : Nat} {p a : Int} {ta t1 t2 t3 : Tok} (hi : IntsAre vs cs) (hp : 0 ≤ p) (ha : 0 ≤ a) (hfit : cs.length ≤ 100000) :
    Spec prog w (hd.heap_39 w.params) 700 7000 267 [.ref x, .int a ta] (tokL w x dx Cd vs nC p t1 t2 t3) (fun v nn => (∃ t, v = .int (codeAt cs (p + a)) t) ∧ nn = tokL w x dx Cd vs nC p t1 t2 t3) := by
  k_extra "my enter"
  intro pr loose mean mg mb outer A₀ base g L' h₁ s tk Q B F X N T lt ret
  k_lt lt
  k_steps
  · exact ret _ _ _ _ _ _ rfl ⟨⟨_, by rw [codeAt_lt (by omega)]⟩, rfl⟩ (by assumption) (by assumption)
  · exact ret _ _ _ _ _ _ rfl ⟨⟨_, by rw [codeAt_ge (by omega)]⟩, rfl⟩ (by assumption) (by assumption)
end PartMF
section PartMN
theorem word_6 : True := by
  k_with_none
  (k_with "my e0" => (((case ho | hcd => k_is); (case hr => decide); (case hb => first | exact fun s X => BindsTo.of_eq rfl | exact fun s X => binds_K X rfl (by k_is) rfl rfl rfl); (case hl => exact locs rfl); (case c1 | c2 | c3 => exact rfl); (case c4 => decide))))
  (k_with "my enter" => ((k_dflt (refine' spec_of ?ho ?hcd ?hr ?hb ?hl ?c1 ?c2 ?c3 ?c4 ?_; k_extra "my e0"))))
  (k_with "my enterR" => ((k_dflt (refine' specR_of ?ho ?hcd ?hr ?hb ?hl ?c1 ?c2 ?c3 ?c4 ?_; k_extra "my e0"))))
  (k_with "my rst" => (first | exact Rst.nil | exact Rst.all (fun _ _ => List.not_mem_nil) | exact Rst.all hown9 | (refine' Rst.drop ?ra ?rb; (case ra => k_extra "my in"); (case rb => k_extra "my rst")) | (refine' Rst.keep ?ra ?rb; (case ra => k_extra "my notin"); (case rb => k_extra "my rst"))))
  (k_with "my c1" => (((case a1 | a2 | a3 => exact rfl); (case a4 | a5 => exact Nat.le_of_ble_eq_true rfl))))
  (k_with "my c2" => (((case a7 => first | exact rfl | assumption); (case B | F | X | N | T => k_asm))))
  (k_with "my c4" => ((k_extra "my c1"; (case a6 => exact rfl); k_extra "my c2")))
  (k_with "my c3" => (((case hn => k_extra "my mem"); (case has => exact rfl); (case hr => k_extra "my rst"))))
  (k_with "eval Constant int" => ((refine wpAny_Constant_int ?_; (try dsimp only))))
  (k_with "evalPairs" => ((first | (refine pairTrees_cons_walk ?_; (try dsimp only)) | (refine pairTrees_nil_walk ?_; (try dsimp only)))))
  (k_with "my mem" => (first | exact List.forall_mem_nil _ | (refine' List.forall_mem_cons.mpr ⟨?ma, ?mb⟩; (case ma => k_mem); (case mb => k_extra "my mem"))))
  (k_with "my notin" => (first | exact List.not_mem_nil | (refine' notin_cons ?na ?nb; (case na => ((try dsimp only); first | k_extra "my ne" | omega)); (case nb => k_extra "my notin"))))
  (k_with "my in" => (first | exact List.Mem.head _ | (refine' List.Mem.tail _ ?_; k_extra "my in")))
  (k_with "my post" => (((try k_sweep); (try dsimp only); (try k_fold))))
  (k_with "call ref" => ((k_here; first | ((with_reducible show wpAny _ _ (call (Value.ref 267) _) _ _ _); k_dflt ((show wpAny _ _ (call (Value.ref 267) [Value.ref _, Value.int _ _]) _ _ _); refine' spec_ro (code1_spec ?h0 ?h1 ?h3 ?h2) ?a1 ?a2 ?a3 ?a4 ?a5 ?a6 ?a7 ?B ?F ?X ?N ?T ?hn ?_; k_extra "my c4"; (case hn => k_extra "my mem"); (case h0 => assumption); (case h1 | h3 => omega); (case h2 => assumption); k_whole; intro v9 h9 tk9 hP9 F9 N9; (obtain ⟨t9, rfl⟩ := hP9); k_extra "my post")) | ((with_reducible show wpAny _ _ (call (Value.ref 267) _) _ _ _); k_dflt ((show wpAny _ _ (call (Value.ref 267) [Value.ref _]) _ _ _); refine' spec_ro (code0_spec ?h0 ?h1 ?h2) ?a1 ?a2 ?a3 ?a4 ?a5 ?a6 ?a7 ?B ?F ?X ?N ?T ?hn ?_; k_extra "my c4"; (case hn => k_extra "my mem"); (case h0 => assumption); (case h1 => omega); (case h2 => assumption); k_whole; intro v9 h9 tk9 hP9 F9 N9; (obtain ⟨t9, rfl⟩ := hP9); k_extra "my post")) | ((with_reducible show wpAny _ _ (call (Value.ref 191) _) _ _ _); k_dflt ((show wpAny _ _ (call (Value.ref 191) [Value.int _ _]) _ _ _); refine' spec_ro (is_break_spec ?h0) ?a1 ?a2 ?a3 ?a4 ?a5 ?a6 ?a7 ?B ?F ?X ?N ?T ?hn ?_; k_extra "my c4"; (case hn => k_extra "my mem"); (case h0 => assumption); k_whole; intro v9 h9 tk9 hP9 F9 N9; (subst hP9); k_extra "my post")) | ((with_reducible show wpAny _ _ (call (Value.ref 245) _) _ _ _); k_dflt ((show wpAny _ _ (call (Value.ref 245) [Value.int _ _, _]) _ _ _); refine' spec_ro (sign_of_spec ?h0 ?h1) ?a1 ?a2 ?a3 ?a4 ?a5 ?a6 ?a7 ?B ?F ?X ?N ?T ?hn ?_; k_extra "my c4"; (case hn => k_extra "my mem"); (case h0 | h1 => omega); k_whole; intro v9 h9 tk9 hP9 F9 N9; (obtain ⟨t9, rfl⟩ := hP9); k_extra "my post")))))
  trivial
theorem fr_of {cs : List Int} {p i : Int} (hp : 0 ≤ p) (hpi : p ≤ i) (hok : ∀ c ∈ cs.drop p.toNat, okc c) (h : i < (cs.length : Int)) : okc (codeAt cs i) := by
  rw [codeAt_lt h]
  apply hok
  rw [List.mem_iff_getElem?]
  refine ⟨i.toNat - p.toNat, ?_⟩
  rw [List.getElem?_drop, List.getD_eq_getElem?_getD]
  have e : p.toNat + (i.toNat - p.toNat) = i.toNat := by omega
  have hl : i.toNat < cs.length := by omega
  rw [e, List.getElem?_eq_getElem hl]
  rfl
structure NS where
  i : Int
  us : List Value
  ws : List PySem.Str
  n : Nat
  t : Tok
abbrev nsOk (cs : List Int) (p : Int) (c : NS) : Prop := StrsAre c.us c.ws ∧ p ≤ c.i ∧ c.i ≤ cs.length ∧ c.ws = ((cs.drop p.toNat).take (c.i - p).toNat).map (fun k => KStt.txt [k])
theorem us_len {us : List Value} {ws : List PySem.Str} {cs : List Int} {p : Int} {k : Nat} (h : StrsAre us ws) (hw : ws = ((cs.drop p.toNat).take k).map (fun k => KStt.txt [k])) : us.length ≤ cs.length := by
  rw [h.length, hw, List.length_map, List.length_take, List.length_drop]
  omega
theorem take_snoc {cs : List Int} {p i : Int} (hp : 0 ≤ p) (hpi : p ≤ i) (h : i < (cs.length : Int)) : (cs.drop p.toNat).take (i + 1 - p).toNat = (cs.drop p.toNat).take (i - p).toNat ++ [codeAt cs i] := by
  have e : (i + 1 - p).toNat = (i - p).toNat + 1 := by omega
  have hl : i.toNat < cs.length := by omega
  rw [e, List.take_add_one, List.getElem?_drop, codeAt_lt h, List.getD_eq_getElem?_getD]
  have e2 : p.toNat + (i - p).toNat = i.toNat := by omega
  rw [e2, List.getElem?_eq_getElem hl]
  rfl
theorem name_step {cs : List Int} {p i : Int} {us : List Value} {ws : List PySem.Str} {n' : Nat} {t' u : Tok} (hp : 0 ≤ p) (hs : StrsAre us ws) (h1 : p ≤ i) (hw : ws = ((cs.drop p.toNat).take (i - p).toNat).map (fun k => KStt.txt [k])) (h : i < (cs.length : Int)) :
    nsOk cs p ⟨i + 1, us ++ [.str ⟨#[(codeAt cs i).toNat]⟩ u], ws ++ [KStt.txt [codeAt cs i]], n', t'⟩ := by
  refine ⟨KStt.strs_snoc hs, by show p ≤ i + 1; omega, by show i + 1 ≤ _; omega, ?_⟩
  show ws ++ _ = _
  rw [take_snoc hp h1 h, List.map_append, hw]
  rfl
theorem join_singles (l : List Int) : Txt.join (Str.ofString "") (l.map fun k => KStt.txt [k]) = KStt.txt l := by
  have e : Str.ofString "" = Str.empty := by decide +kernel
  unfold Txt.join
  rw [StrLaws.glued_eq_join, e]
  induction l with
  | nil => rfl
  | cons a r ih =>
    have key : KStt.txt (a :: r) = KStt.txt [a] ++ KStt.txt r := by
      refine PySem.Str.ext' (Array.toList_inj.mp ?_)
      rw [PySem.Str.cps_append, Array.toList_append]
      rfl
    cases r with
    | nil => rfl
    | cons b r' =>
      show KStt.txt [a] ++ Str.empty ++ Str.join Str.empty ((b :: r').map fun k => KStt.txt [k]) = _
      rw [ih, key]
      congr 1
theorem join_weight (l : List Int) : ((l.map fun k => KStt.txt [k]).map (·.length)).sum + (l.map fun k => KStt.txt [k]).length ≤ 2 * l.length := by
  induction l with
  | nil => simp
  | cons a r ih =>
    simp only [List.map_cons, List.sum_cons, List.length_cons] at ih ⊢
    have : (KStt.txt [a]).length = 1 := rfl
    omega
theorem join_len {cs : List Int} {p : Int} {k : Nat} {ws : List PySem.Str} (hfit : cs.length ≤ 100000) (hw : ws = ((cs.drop p.toNat).take k).map (fun k => KStt.txt [k])) : (ws.map (·.length)).sum + ws.length ≤ 1048576 := by
  have := join_weight ((cs.drop p.toNat).take k)
  rw [← hw, List.length_take, List.length_drop] at this
  omega
theorem name_end {cs : List Int} {p i : Int} {ws : List PySem.Str} (h2 : i ≤ (cs.length : Int)) (hw : ws = ((cs.drop p.toNat).take (i - p).toNat).map (fun k => KStt.txt [k])) (hp : 0 ≤ p) (h : ¬ i < (cs.length : Int)) :
    Txt.join (Str.ofString "") ws = KStt.txt (cs.drop p.toNat) := by
  have e : i = cs.length := by omega
  rw [hw, join_singles, e, List.take_of_length_le]
  rw [List.length_drop]
  omega
section
variable {prog : Program} {w : World} {A : Around} {E : Value → Shared → Prop} {Q : Flow → Shared → Prop} {s : Shared} {env : Env} {h₀ : Heap} {L lA x dx Cd : Addr} {vs : List Value} {nC : Nat} {t1 t2 t3 : Tok}
theorem name_loop {test : PySem.Expr} {body : List Stmt} {pos : Pos} {m₀ : Str → Option Value} {cs : List Int} {p : Int}
    (F : Fr h₀ L s.heap m₀) (N : News h₀ L s.heap ((lA, listOf #[] 0) :: tokL w x dx Cd vs nC p t1 t2 t3)) (hp2 : p ≤ (cs.length : Int)) (hE : PassesOwn (model prog w) A env E)
    (turn : ∀ (c : NS) (u : Str → Option Value) h tk, nsOk cs p c → Fr h₀ L h m₀ → News h₀ L h ((lA, listOf c.us.toArray c.n) :: tokL w x dx Cd vs nC c.i t1 t2 c.t) →
      wpAny (model prog w) A (isTrue test env (eval test env)) (fun b s₂ =>
        if b = true then wpAny (model prog w) A (execs body env) (KswPost h₀ L s (fun c : NS => (lA, listOf c.us.toArray c.n) :: tokL w x dx Cd vs nC c.i t1 t2 c.t) (fun _ => []) (nsOk cs p) [] m₀ (fun _ => True) (fun c => (cs.length - c.i).toNat) Q c) E s₂ else Q .next s₂) E { s with heap := h, toks := tk }) :
    wpAny (model prog w) A (exec (.While test body [] pos) env) Q E s :=
  ksw_while (σ := NS) (fun c => (lA, listOf c.us.toArray c.n) :: tokL w x dx Cd vs nC c.i t1 t2 c.t) (fun _ => []) (nsOk cs p) [] (fun _ => True) (fun c => (cs.length - c.i).toNat) ⟨p, [], [], 0, t3⟩ F N ⟨.nil, Int.le_refl _, hp2, by simp⟩ (fun _ h => nomatch h) True.intro
    (fun c u h tk hf _ F N => turn c u h tk hf F N) hE
end
theorem word_7 : True := by
  (k_with "my pre" => ((first | omega | (simp only [bne_iff_ne, ne_eq, beq_iff_eq, decide_eq_true_eq, Bool.not_eq_true'] ; omega))))
  (k_with "ite" => (first | (k_openite; goal_has Mine.codeAt; first | (refine ite_pos (by k_extra "my pre") ?_; walk_say "MINE") | (refine ite_neg (by k_extra "my pre") ?_; walk_say "MINE")) | (k_closed; first | (refine ite_pos (by decide) ?_; walk_say "MINEC") | (refine ite_neg (by decide) ?_; walk_say "MINEC"))))
  (k_with "WhlIf" => ((goal_has Mine.codeAt; first | (refine WhlIf.yes (by (simp only [bne_iff_ne, ne_eq, beq_iff_eq, decide_eq_true_eq, Bool.not_eq_true', Bool.and_eq_true] ; omega)) ?_; walk_say "MINE") | (refine WhlIf.no (by (simp only [bne_eq_false_iff_eq, beq_eq_false_iff_ne, ne_eq, decide_eq_false_iff_not, Bool.and_eq_false_iff] ; omega)) ?_; walk_say "MINE"))))
  (k_with "call builtin:str.join" => ((k_dflt (refine' join_listW (News.isList ?N ?m) hs1 (by decide) (join_len hfit hw1) ?_; (case N => k_asm); (case m => k_mem); intro t8 k8))))
  (k_with "exec While BoolOp" => (( k_dflt (refine' name_loop ?F ?N hp2 (by passes_own) ?_; (case F => k_asm); (case N => k_asm)); intro c u h tk2 hf F N; (try k_sweep); obtain ⟨i1, us1, ws1, n1, t4⟩ := c; obtain ⟨hs1, hi1, hi2, hw1⟩ := hf; (try dsimp only at hs1 hi1 hi2 hw1 N ⊢); by_cases hlt : i1 < (cs.length : Int); (have hc1 := fr_of hp0 hi1 hok hlt); (have hc2 := hc1); (unfold okc at hc2); (have hus := us_len hs1 hw1); rotate_left; (have hc2 := codeAt_ge hlt); all_goals (try k_fold))))
  trivial
set_option maxRecDepth 100000 in
set_option maxHeartbeats 1500000 in
theorem name_spec {prog : Program} {w : World} {x dx Cd : Addr} {vs : List Value} {cs : List Int} {nC : Nat} {p : Int} {t1 t2 t3 : Tok} (hi : IntsAre vs cs) (hp0 : 0 ≤ p) (hp2 : p ≤ (cs.length : Int)) (hfit : cs.length ≤ 100000)
    (n1 : @Ne Nat x dx) (n2 : @Ne Nat x Cd) (n3 : @Ne Nat dx Cd) (hok : ∀ c ∈ cs.drop p.toNat, okc c) :
    Spec prog w (hd.heap_39 w.params) 650 6500 309 [.ref x] (tokL w x dx Cd vs nC p t1 t2 t3)
      (fun v nn => ∃ T t t3' k, (x < T ∧ dx < T ∧ Cd < T) ∧ v = .ref T ∧ nn = (T, { cls := .type "tuple", data := .seq #[.str (KStt.txt (cs.drop p.toNat)) t, .bool false] k }) :: tokL w x dx Cd vs nC (cs.length : Int) t1 t2 t3') := by
  k_extra "my enter"
  intro pr loose mean mg mb outer A₀ base g L' h₁ s tk Q B F X N T lt ret
  k_lt lt
  k_steps
  · have he : i1 = (cs.length : Int) := by omega
    subst he
    (rename News _ _ _ _ => nE)
    rw [name_end hi2 hw1 hp0 hlt] at nE
    exact ret _ _ _ _ _ _ rfl ⟨_, _, _, _, ⟨ltN (by omega), ltN (by omega), ltN (by omega)⟩, rfl, rfl⟩ (by assumption) (cb_drop nE (by k_extra "my mem"))
  · (rename News _ _ _ _ => nE)
    simp only [List.push_toArray] at nE
    refine' ksw_end (⟨i1 + 1, us1 ++ [.str ⟨#[(codeAt cs i1).toNat]⟩ _], ws1 ++ [KStt.txt [codeAt cs i1]], n1 + 1, _⟩ : NS) ?F nE ?mem ?facts (fun _ h => nomatch h) (fun _ _ _ => rfl) True.intro ?ms
    case F => assumption
    case mem => k_extra "my mem"
    case facts => exact name_step hp0 hs1 hi1 hw1 hlt
    case ms => show ((cs.length : Int) - (i1 + 1)).toNat < ((cs.length : Int) - i1).toNat; omega
end PartMN
section PartMT
theorem txt_toList (l : List Int) : (KStt.txt l).cps.toList = l.map Int.toNat := rfl
theorem txt_len (l : List Int) : (KStt.txt l).length = l.length := KStt.txt_length l
theorem slice_head1 {c : Int} {r : List Int} : Txt.slice (KStt.txt (c :: r)) none (some 1) = KStt.txt [c] := by
  have h := eq_of_beq (slice_closes_toL (x := KStt.txt (c :: r)) (j := 1) (by omega) (by rw [txt_len, List.length_cons]; omega))
  rw [h]
  rfl
theorem slice_tail1 {c : Int} {r : List Int} : Txt.slice (KStt.txt (c :: r)) (some 1) none = KStt.txt r := by
  have h := eq_of_beq (slice_closes_fromL (x := KStt.txt (c :: r)) (i := 1) (b := ((KStt.txt (c :: r)).length : Int)) (by omega) (by rw [txt_len, List.length_cons]; omega) rfl)
  rw [h, txt_toList]
  have e : (((KStt.txt (c :: r)).length : Int) - 1).toNat = r.length := by rw [txt_len, List.length_cons]; omega
  rw [e]
  show (⟨((r.map Int.toNat).take r.length).toArray⟩ : PySem.Str) = _
  rw [List.take_of_length_le (by simp)]
  rfl
theorem slice_init {l : List Int} {c : Int} : Txt.slice (KStt.txt (l ++ [c])) none (some (-1)) = KStt.txt l := by
  have e1 : Txt.slice (KStt.txt (l ++ [c])) none (some (-1)) = Txt.slice (KStt.txt (l ++ [c])) none (some (-1 + ((KStt.txt (l ++ [c])).length : Int))) := by
    unfold Txt.slice
    rw [StrLaws.sliceIdx_neg_hi none _ (by omega) (by rw [txt_len, List.length_append, List.length_singleton]; omega)]
  have h := eq_of_beq (slice_closes_toL (x := KStt.txt (l ++ [c])) (j := -1 + ((KStt.txt (l ++ [c])).length : Int)) (by rw [txt_len, List.length_append, List.length_singleton]; omega) (by omega))
  rw [e1, h, txt_toList]
  have e : (-1 + ((KStt.txt (l ++ [c])).length : Int) - 0).toNat = l.length := by rw [txt_len, List.length_append, List.length_singleton]; omega
  rw [e]
  show (⟨(((l ++ [c]).map Int.toNat).take l.length).toArray⟩ : PySem.Str) = _
  rw [List.map_append, List.take_append_of_le_length (by simp), List.take_of_length_le (by simp)]
  rfl
theorem slice_last {l : List Int} {c : Int} : Txt.slice (KStt.txt (l ++ [c])) (some (-1)) none = KStt.txt [c] := by
  have e1 : Txt.slice (KStt.txt (l ++ [c])) (some (-1)) none = Txt.slice (KStt.txt (l ++ [c])) (some (-1 + ((KStt.txt (l ++ [c])).length : Int))) none := by
    unfold Txt.slice
    rw [StrLaws.sliceIdx_neg_lo none _ (by omega) (by rw [txt_len, List.length_append, List.length_singleton]; omega)]
  have h := eq_of_beq (slice_closes_fromL (x := KStt.txt (l ++ [c])) (i := -1 + ((KStt.txt (l ++ [c])).length : Int)) (b := ((KStt.txt (l ++ [c])).length : Int)) (by rw [txt_len, List.length_append, List.length_singleton]; omega) (by omega) rfl)
  rw [e1, h, txt_toList]
  have e : (-1 + ((KStt.txt (l ++ [c])).length : Int)).toNat = l.length := by rw [txt_len, List.length_append, List.length_singleton]; omega
  have e' : (((KStt.txt (l ++ [c])).length : Int) - (-1 + ((KStt.txt (l ++ [c])).length : Int))).toNat = 1 := by omega
  rw [e, e', List.map_append, List.drop_append_of_le_length (by simp), List.drop_of_length_le (by simp)]
  rfl
theorem txt_one {c d : Int} (hc : 0 ≤ c) (hd : 0 ≤ d) : (KStt.txt [c] == KStt.txt [d]) = decide (c = d) := by
  rw [Bool.eq_iff_iff, beq_iff_eq, decide_eq_true_eq]
  constructor
  · intro h
    have : c.toNat = d.toNat := by
      have h2 := congrArg (fun x : PySem.Str => x.cps.toList) h
      simpa [txt_toList] using h2
    omega
  · rintro rfl; rfl
theorem s_plus : Str.ofString "+" = KStt.txt [43] := by decide +kernel
theorem s_minus : Str.ofString "-" = KStt.txt [45] := by decide +kernel
theorem s_dot : Str.ofString "." = KStt.txt [46] := by decide +kernel
theorem s_empty : Str.ofString "" = KStt.txt [] := by decide +kernel
theorem s_digits : Str.ofString "0123456789" = KStt.txt [48, 49, 50, 51, 52, 53, 54, 55, 56, 57] := by decide +kernel
theorem txt_nonempty {c : Int} {r : List Int} : (KStt.txt (c :: r) != Str.ofString "") = true := by
  rw [s_empty, bne_iff_ne]
  intro h
  have := congrArg PySem.Str.length h
  rw [txt_len, txt_len, List.length_cons] at this
  cases this
def bodyL : List Int → List Int
  | [] => []
  | c :: r => if c = 43 ∨ c = 45 then r else c :: r
theorem sign_test {c : Int} {r : List Int} (hc : 0 ≤ c) : ([Str.ofString "+", Str.ofString "-"].any fun x => x == Txt.slice (KStt.txt (c :: r)) none (some 1)) = decide (c = 43 ∨ c = 45) := by
  rw [slice_head1, s_plus, s_minus]
  simp only [List.any_cons, List.any_nil, Bool.or_false]
  rw [txt_one (by omega) hc, txt_one (by omega) hc, Bool.eq_iff_iff]
  simp only [Bool.or_eq_true, decide_eq_true_eq]
  omega
def isDig (c : Int) : Prop := 48 ≤ c ∧ c ≤ 57
theorem all_digits {l : List Int} (h : ∀ c ∈ l, isDig c) : ((signs (KStt.txt l)).all fun a => !(Builtin.Str.occurrences (Str.ofString "0123456789") a 0 (Str.ofString "0123456789").length 1).isEmpty) = true := by
  rw [List.all_eq_true]
  intro a ha
  unfold signs at ha
  rw [txt_toList, List.map_map] at ha
  obtain ⟨c, hc, rfl⟩ := List.mem_map.mp ha
  show (!(Builtin.Str.occurrences (Str.ofString "0123456789") ⟨#[c.toNat]⟩ 0 (Str.ofString "0123456789").length 1).isEmpty) = true
  rw [StrLaws.found_one, decide_eq_true_eq, s_digits, txt_toList]
  have := h c hc
  unfold isDig at this
  rw [List.mem_map]
  refine ⟨c, ?_, rfl⟩
  simp only [List.mem_cons, List.not_mem_nil, or_false]
  omega
end PartMT
section PartMV
theorem word_8 : True := by
  k_with_none
  (k_with "my e0" => (((case ho | hcd => k_is); (case hr => decide); (case hb => first | exact fun s X => BindsTo.of_eq rfl | exact fun s X => binds_K X rfl (by k_is) rfl rfl rfl); (case hl => exact locs rfl); (case c1 | c2 | c3 => exact rfl); (case c4 => decide))))
  (k_with "my enter" => ((k_dflt (refine' spec_of ?ho ?hcd ?hr ?hb ?hl ?c1 ?c2 ?c3 ?c4 ?_; k_extra "my e0"))))
  (k_with "my enterR" => ((k_dflt (refine' specR_of ?ho ?hcd ?hr ?hb ?hl ?c1 ?c2 ?c3 ?c4 ?_; k_extra "my e0"))))
  (k_with "my rst" => (first | exact Rst.nil | exact Rst.all (fun _ _ => List.not_mem_nil) | exact Rst.all hown9 | (refine' Rst.drop ?ra ?rb; (case ra => k_extra "my in"); (case rb => k_extra "my rst")) | (refine' Rst.keep ?ra ?rb; (case ra => k_extra "my notin"); (case rb => k_extra "my rst"))))
  (k_with "my c1" => (((case a1 | a2 | a3 => exact rfl); (case a4 | a5 => exact Nat.le_of_ble_eq_true rfl))))
  (k_with "my c2" => (((case a7 => first | exact rfl | assumption); (case B | F | X | N | T => k_asm))))
  (k_with "my c4" => ((k_extra "my c1"; (case a6 => exact rfl); k_extra "my c2")))
  (k_with "my c3" => (((case hn => k_extra "my mem"); (case has => exact rfl); (case hr => k_extra "my rst"))))
  (k_with "eval Constant int" => ((refine wpAny_Constant_int ?_; (try dsimp only))))
  (k_with "evalPairs" => ((first | (refine pairTrees_cons_walk ?_; (try dsimp only)) | (refine pairTrees_nil_walk ?_; (try dsimp only)))))
  (k_with "my mem" => (first | exact List.forall_mem_nil _ | (refine' List.forall_mem_cons.mpr ⟨?ma, ?mb⟩; (case ma => k_mem); (case mb => k_extra "my mem"))))
  (k_with "my notin" => (first | exact List.not_mem_nil | (refine' notin_cons ?na ?nb; (case na => ((try dsimp only); first | k_extra "my ne" | omega)); (case nb => k_extra "my notin"))))
  (k_with "my in" => (first | exact List.Mem.head _ | (refine' List.Mem.tail _ ?_; k_extra "my in")))
  (k_with "my post" => (((try k_sweep); (try dsimp only); (try k_fold))))
  trivial
theorem body_endA {c : Int} {r : List Int} {t : Tok} (h : c = 43 ∨ c = 45) : Value.str (Txt.slice (KStt.txt (c :: r)) (some 1) none) t = .str (KStt.txt (bodyL (c :: r))) t := by
  rw [slice_tail1]
  simp only [bodyL, if_pos h]
theorem body_endB {c : Int} {r : List Int} {t : Tok} (h : ¬ (c = 43 ∨ c = 45)) : Value.str (KStt.txt (c :: r)) t = .str (KStt.txt (bodyL (c :: r))) t := by
  simp only [bodyL, if_neg h]
set_option maxRecDepth 100000 in
set_option maxHeartbeats 1500000 in
theorem body_of_spec {prog : Program} {w : World} {c : Int} {r : List Int} {t : Tok} (hc : 0 ≤ c) (hfit : (c :: r).length ≤ 100000) :
    Spec prog w (hd.heap_39 w.params) 700 7000 198 [.str (KStt.txt (c :: r)) t] [] (fun v nn => (∃ t', v = .str (KStt.txt (bodyL (c :: r))) t') ∧ nn = []) := by
  k_extra "my enter"
  intro pr loose mean mg mb outer A₀ base g L' h₁ s tk Q B F X N T lt ret
  have hln := txt_len (c :: r)
  have hst := sign_test (r := r) hc
  k_steps
  all_goals (rename (List.any _ _ = _) => hq; rw [hst] at hq)
  · exact ret _ _ _ _ _ _ rfl ⟨⟨_, body_endA (of_decide_eq_true hq)⟩, rfl⟩ (by assumption) News.nil
  · exact ret _ _ _ _ _ _ rfl ⟨⟨_, body_endB (of_decide_eq_false hq)⟩, rfl⟩ (by assumption) News.nil
set_option maxRecDepth 100000 in
set_option maxHeartbeats 1500000 in
theorem are_figures_spec {prog : Program} {w : World} {c : Int} {r : List Int} {t : Tok} (hdg : ∀ x ∈ (c :: r), isDig x) (hfit : (c :: r).length ≤ 100000) :
    Spec prog w (hd.heap_39 w.params) 680 6800 224 [.str (KStt.txt (c :: r)) t] [] (fun v nn => v = .bool true ∧ nn = []) := by
  k_extra "my enter"
  intro pr loose mean mg mb outer A₀ base g L' h₁ s tk Q B F X N T lt ret
  have hln := txt_len (c :: r)
  have hne := txt_nonempty (c := c) (r := r)
  k_steps
  · exact ret _ _ _ _ _ _ rfl ⟨by rw [all_digits hdg], rfl⟩ (by assumption) News.nil
end PartMV
section PartMW
theorem word_9 : True := by
  k_with_none
  (k_with "my e0" => (((case ho | hcd => k_is); (case hr => decide); (case hb => first | exact fun s X => BindsTo.of_eq rfl | exact fun s X => binds_K X rfl (by k_is) rfl rfl rfl); (case hl => exact locs rfl); (case c1 | c2 | c3 => exact rfl); (case c4 => decide))))
  (k_with "my enter" => ((k_dflt (refine' spec_of ?ho ?hcd ?hr ?hb ?hl ?c1 ?c2 ?c3 ?c4 ?_; k_extra "my e0"))))
  (k_with "my enterR" => ((k_dflt (refine' specR_of ?ho ?hcd ?hr ?hb ?hl ?c1 ?c2 ?c3 ?c4 ?_; k_extra "my e0"))))
  (k_with "my rst" => (first | exact Rst.nil | exact Rst.all (fun _ _ => List.not_mem_nil) | exact Rst.all hown9 | (refine' Rst.drop ?ra ?rb; (case ra => k_extra "my in"); (case rb => k_extra "my rst")) | (refine' Rst.keep ?ra ?rb; (case ra => k_extra "my notin"); (case rb => k_extra "my rst"))))
  (k_with "my c1" => (((case a1 | a2 | a3 => exact rfl); (case a4 | a5 => exact Nat.le_of_ble_eq_true rfl))))
  (k_with "my c2" => (((case a7 => first | exact rfl | assumption); (case B | F | X | N | T => k_asm))))
  (k_with "my c4" => ((k_extra "my c1"; (case a6 => exact rfl); k_extra "my c2")))
  (k_with "my c3" => (((case hn => k_extra "my mem"); (case has => exact rfl); (case hr => k_extra "my rst"))))
  (k_with "eval Constant int" => ((refine wpAny_Constant_int ?_; (try dsimp only))))
  (k_with "evalPairs" => ((first | (refine pairTrees_cons_walk ?_; (try dsimp only)) | (refine pairTrees_nil_walk ?_; (try dsimp only)))))
  (k_with "my mem" => (first | exact List.forall_mem_nil _ | (refine' List.forall_mem_cons.mpr ⟨?ma, ?mb⟩; (case ma => k_mem); (case mb => k_extra "my mem"))))
  (k_with "my notin" => (first | exact List.not_mem_nil | (refine' notin_cons ?na ?nb; (case na => ((try dsimp only); first | k_extra "my ne" | omega)); (case nb => k_extra "my notin"))))
  (k_with "my in" => (first | exact List.Mem.head _ | (refine' List.Mem.tail _ ?_; k_extra "my in")))
  (k_with "my post" => (((try k_sweep); (try dsimp only); (try k_fold))))
  (k_with "call ref" => ((k_here; first | ((with_reducible show wpAny _ _ (call (Value.ref 198) _) _ _ _); k_dflt ((show wpAny _ _ (call (Value.ref 198) [Value.str (KStt.txt (_ :: _)) _]) _ _ _); refine' spec_ro (body_of_spec ?h0 ?h1) ?a1 ?a2 ?a3 ?a4 ?a5 ?a6 ?a7 ?B ?F ?X ?N ?T ?hn ?_; k_extra "my c4"; (case hn => k_extra "my mem"); (case h0 | h1 => assumption); k_whole; intro v9 h9 tk9 hP9 F9 N9; (obtain ⟨t9, rfl⟩ := hP9); k_extra "my post")))))
  trivial
def figC (c : Int) : Int := if c ≤ 57 then c - 48 else c - 87
def loC (c : Int) : Int := if 65 ≤ c ∧ c ≤ 90 then c + 32 else c
def valC (radix : Int) (l : List Int) : Int := l.foldl (fun a c => a * radix + figC c) 0
def lowdig (radix c : Int) : Prop := (48 ≤ c ∧ c ≤ 57 ∨ 97 ≤ c ∧ c ≤ 122) ∧ figC c < radix
theorem codes_txt {l : List Int} (h : ∀ x ∈ l, 0 ≤ x) : KStt.codes (KStt.txt l) = l := by
  unfold KStt.codes
  rw [txt_toList, List.map_map]
  refine (List.map_congr_left fun x hx => ?_).trans (List.map_id l)
  show ((x.toNat : Nat) : Int) = x
  exact Int.toNat_of_nonneg (h x hx)
theorem low_txt {l : List Int} (h : ∀ x ∈ l, 0 ≤ x ∧ x < 128) : Txt.lower (KStt.txt l) = KStt.txt (l.map loC) := by
  have hA : ∀ c ∈ (KStt.txt l).cps.toList, c < 128 := by
    intro c hc
    rw [txt_toList] at hc
    obtain ⟨x, hx, rfl⟩ := List.mem_map.mp hc
    have := h x hx
    omega
  rw [lower_ascii hA]
  refine PySem.Str.ext' (Array.toList_inj.mp ?_)
  rw [txt_toList, List.map_map]
  show ((KStt.txt l).cps.map lo1).toList = _
  rw [Array.toList_map, txt_toList, List.map_map]
  refine List.map_congr_left fun x hx => ?_
  have := h x hx
  show lo1 x.toNat = (loC x).toNat
  unfold lo1 loC
  split <;> split <;> omega
theorem s_figs : Str.ofString "0123456789abcdefghijklmnopqrstuvwxyz" = ⟨#[48, 49, 50, 51, 52, 53, 54, 55, 56, 57, 97, 98, 99, 100, 101, 102, 103, 104, 105, 106, 107, 108, 109, 110, 111, 112, 113, 114, 115, 116, 117, 118, 119, 120, 121, 122]⟩ := by decide +kernel
theorem find_tab : ∀ n : Nat, n < 123 → (48 ≤ n ∧ n ≤ 57 ∨ 97 ≤ n ∧ n ≤ 122) → Txt.find (Str.ofString "0123456789abcdefghijklmnopqrstuvwxyz") ⟨#[n]⟩ = figC n := by decide +kernel
theorem find_fig {radix : Int} {n : Nat} (h : lowdig radix n) : Txt.find (Str.ofString "0123456789abcdefghijklmnopqrstuvwxyz") ⟨#[n]⟩ = figC n := by
  obtain ⟨h, _⟩ := h
  exact find_tab n (by omega) (by omega)
theorem fig_pos {radix c : Int} (h : lowdig radix c) : 0 ≤ figC c ∧ figC c < radix := by
  refine ⟨?_, h.2⟩
  have := h.1
  unfold figC
  split <;> omega
theorem valC_snoc (radix : Int) (l : List Int) (c : Int) : valC radix (l ++ [c]) = valC radix l * radix + figC c := by
  unfold valC
  rw [List.foldl_append]
  rfl
theorem valC_pos {radix : Int} (hr : 1 ≤ radix) : ∀ {l : List Int}, (∀ x ∈ l, lowdig radix x) → 0 ≤ valC radix l := by
  intro l
  have key : ∀ (l : List Int) (a : Int), 0 ≤ a → (∀ x ∈ l, lowdig radix x) → a ≤ l.foldl (fun a c => a * radix + figC c) a := by
    intro l
    induction l with
    | nil => intro a _ _; exact Int.le_refl _
    | cons c r ih =>
      intro a ha h
      have hf := fig_pos (h c (.head _))
      have h1 : a ≤ a * radix := by
        have := Int.mul_le_mul_of_nonneg_left hr ha
        rw [Int.mul_one] at this
        exact this
      have := ih (a * radix + figC c) (by omega) (fun x hx => h x (.tail _ hx))
      rw [List.foldl_cons]
      omega
  exact fun h => key l 0 (Int.le_refl _) h
theorem valC_mono {radix : Int} (hr : 1 ≤ radix) {pre post : List Int} (h : ∀ x ∈ pre ++ post, lowdig radix x) : valC radix pre ≤ valC radix (pre ++ post) := by
  have key : ∀ (l : List Int) (a : Int), 0 ≤ a → (∀ x ∈ l, lowdig radix x) → a ≤ l.foldl (fun a c => a * radix + figC c) a := by
    intro l
    induction l with
    | nil => intro a _ _; exact Int.le_refl _
    | cons c r ih =>
      intro a ha h
      have hf := fig_pos (h c (.head _))
      have h1 : a ≤ a * radix := by
        have := Int.mul_le_mul_of_nonneg_left hr ha
        rw [Int.mul_one] at this
        exact this
      have := ih (a * radix + figC c) (by omega) (fun x hx => h x (.tail _ hx))
      rw [List.foldl_cons]
      omega
  unfold valC
  rw [List.foldl_append]
  exact key post _ (valC_pos hr fun x hx => h x (List.mem_append.mpr (.inl hx))) fun x hx => h x (List.mem_append.mpr (.inr hx))
theorem bits_mono {a b : Int} (h0 : 0 ≤ a) (h : a ≤ b) : Builtin.Int.intBits a ≤ Builtin.Int.intBits b := by
  unfold Builtin.Int.intBits
  by_cases ha : (a == 0) = true
  · rw [if_pos ha]; exact Nat.zero_le _
  · rw [if_neg ha]
    have ha' : a ≠ 0 := fun e => ha (by rw [e]; rfl)
    rw [if_neg (fun e => by have := eq_of_beq e; omega)]
    refine Nat.succ_le_succ ?_
    have h1 : a.natAbs ≠ 0 := by omega
    have h2 : b.natAbs ≠ 0 := by omega
    have h3 := Nat.log2_self_le h1
    exact (Nat.le_log2 h2).mpr (Nat.le_trans h3 (by omega))
theorem bits_small {a : Int} (h0 : 0 ≤ a) (h1 : a ≤ 1000000) : Builtin.Int.intBits a ≤ 64 := by
  refine Nat.le_trans (bits_mono h0 h1) ?_
  decide +kernel
theorem ok_ascii {l : List Int} (h : ∀ x ∈ l, okc x) : ∀ x ∈ l, 0 ≤ x ∧ x < 128 := by
  intro x hx
  have := h x hx
  unfold okc at this
  omega
theorem low_pos {radix : Int} {l : List Int} (h : ∀ x ∈ l, lowdig radix x) : ∀ x ∈ l, 0 ≤ x := by
  intro x hx
  have := (h x hx).1
  omega
theorem int_of {x y : Int} {t : Tok} (h : x = y) : ∃ t', Value.int x t = .int y t' := ⟨t, by rw [h]⟩
theorem minus_test {c : Int} {r : List Int} (hc : 0 ≤ c) : (Txt.slice (KStt.txt (c :: r)) none (some 1) == Str.ofString "-") = decide (c = 45) := by
  rw [slice_head1, s_minus, txt_one hc (by omega)]
theorem txt_not_empty {l : List Int} (h : l.map loC ≠ []) : ¬ (KStt.txt l == Str.ofString "") = true := by
  cases l with
  | nil => exact absurd rfl h
  | cons c r =>
    have := txt_nonempty (c := c) (r := r)
    rw [bne_iff_ne] at this
    exact fun e => this (eq_of_beq e)
section
variable {prog : Program} {w : World} {A : Around} {E : Value → Shared → Prop} {s : Shared}
theorem lower_call {l : List Int} {t : Tok} {Q : Value → Shared → Prop} (hok : ∀ x ∈ l, okc x) (hf : l.length ≤ 100000) (h : Q (.str (KStt.txt (l.map loC)) s.toks) { s with toks := s.toks + 1 }) :
    wpAny (model prog w) A (call (.builtin "str.lower") [.str (KStt.txt l) t]) Q E s :=
  SCL.lower (by rw [txt_len]; omega) fun _ => by rw [low_txt (ok_ascii hok)]; exact h
end
theorem at_dig {radix : Int} {dl pre post : List Int} {n : Nat} (hdg : ∀ x ∈ dl, lowdig radix x) (e : KStt.codes (KStt.txt dl) = pre ++ (n : Int) :: post) : lowdig radix n := by
  rw [codes_txt (low_pos hdg)] at e
  exact hdg n (by rw [e]; exact List.mem_append.mpr (.inr (.head _)))
theorem at_bits {radix : Int} {dl pre post : List Int} {n : Int} (hr : 1 ≤ radix) (hdg : ∀ x ∈ dl, lowdig radix x) (e : KStt.codes (KStt.txt dl) = pre ++ n :: post) : 0 ≤ valC radix pre * radix + figC n ∧ valC radix pre * radix + figC n ≤ valC radix dl := by
  rw [codes_txt (low_pos hdg)] at e
  have e2 : dl = (pre ++ [n]) ++ post := by rw [e]; simp
  have hm := valC_mono hr (pre := pre ++ [n]) (post := post) (by rw [← e2]; exact hdg)
  have hp := valC_pos hr (l := pre ++ [n]) (fun x hx => hdg x (by rw [e2]; exact List.mem_append.mpr (.inl hx)))
  rw [← e2, valC_snoc] at hm
  rw [valC_snoc] at hp
  exact ⟨hp, hm⟩
theorem word_10 : True := by
  (k_with "call builtin:str.lower" => ((k_dflt (refine' lower_call ?h1 ?h2 ?_; (case h1 => assumption); (case h2 => assumption)))))
  trivial
abbrev vPs (c : Int × Tok) : List (Str × Value) := [(Str.ofString "found", .int c.1 c.2)]
abbrev vP (radix : Int) (pre : List Int) (c : Int × Tok) : Prop := c.1 = valC radix pre ∧ Builtin.Int.intBits c.1 ≤ 65536
section
variable {prog : Program} {w : World} {A : Around} {E : Value → Shared → Prop} {s : Shared} {env : Env} {h₀ : Heap} {x : Str} {body : List Stmt} {Q : Flow → Shared → Prop}
theorem value_loop {xt : Str} {tx t0 : Tok} {m₀ : Str → Option Value} {radix : Int} (hh : A.handled = none) (F : Fr h₀ env.locals s.heap m₀) (N : News h₀ env.locals s.heap []) (hk : m₀ (Str.ofString "found") = some (.int 0 t0))
    (done : ∀ (a : Int) (ta : Tok) (u : Str → Option Value) h tk, a = valC radix (KStt.codes xt) → Builtin.Int.intBits a ≤ 65536 → Fr h₀ env.locals h (fun y => if y = x then u y else kstB (fun z => if [Str.ofString "figure"].contains z then u z else m₀ z) [(Str.ofString "found", .int a ta)] y) → News h₀ env.locals h [] → Q .next { s with heap := h, toks := tk })
    (turn : ∀ (a : Int) (ta : Tok) (pre post : List Int) (n : Nat) t (u : Str → Option Value) h tk own, KStt.codes xt = pre ++ (n : Int) :: post → a = valC radix pre → Builtin.Int.intBits a ≤ 65536 →
      Fr h₀ env.locals h (fun y => if y = x then some (.str ⟨#[n]⟩ t) else kstB (fun z => if [Str.ofString "figure"].contains z then u z else m₀ z) [(Str.ofString "found", .int a ta)] y) → News h₀ env.locals h own →
      wpAny (model prog w) A (execs body env) (InvPostN h₀ env.locals (KstS (fun _ => []) vPs (fun _ => True) x [Str.ofString "figure"] m₀ (vP radix) (pre ++ [(n : Int)])) own [] { s with heap := h, toks := tk } Q) E { s with heap := h, toks := tk }) :
    wpAny (model prog w) A (pyIter (.str xt tx)) (fun it s₂ => LoopAtV prog w A h₀ env x body Q E it s₂) E s :=
  KStt.kst_text (σ := Int × Tok) (fun _ => []) vPs (fun _ => True) [Str.ofString "figure"] (vP radix) (0, t0) hh F N True.intro (List.forall_mem_cons.mpr ⟨hk, List.forall_mem_nil _⟩) ⟨rfl, Nat.zero_le _⟩
    (fun c pre post n t u h tk own e _ _ hp F N => turn c.1 c.2 pre post n t u h tk own e hp.1 hp.2 F N) (fun c u h tk _ hp F N => done c.1 c.2 u h tk hp.1 hp.2 F N)
end
theorem word_11 : True := by
  (k_with "pyIter str" => (( k_dflt (refine' value_loop (radix := radix) rfl ?F ?N ?hk ?_ ?_; (case F => k_asm); (case N => k_asm); (case hk => with_unfolding_all rfl)); ((intro a1 ta u h tk2 hp1 hp2 F N); (try k_sweep)); rotate_left; ((intro a1 ta pre post n t u h tk2 own hcs hp1 hp2 F N); (try k_sweep); (have hd1 := at_dig hdg hcs); (have hd2 := fig_pos hd1); (have hd3 := find_fig hd1); (have hd4 := at_bits (by omega) hdg hcs); rw [← hp1, ← hd3] at hd4; rw [← hd3] at hd2; (have hd5 := Nat.le_trans (bits_mono hd4.1 hd4.2) hbits)); all_goals (try k_fold))))
  (k_with "InvEndN" => ((k_dflt (refine' kst_end (_, _) ?zqF ?zqN ?zqa ?zqb ?zqc ?zqf ?zqk ?zqr ?zqp; (case zqF => k_asm); (case zqN => k_asm); (case zqa => exact List.forall_mem_nil _); (case zqb => exact fun _ h => h); (case zqc => exact rfl); (case zqf => exact True.intro); (case zqk => exact List.forall_mem_cons.mpr ⟨by with_unfolding_all rfl, List.forall_mem_nil _⟩); (case zqr => (intro z h1 h2 h3; (have h2' := h2 _ (List.Mem.head _)); (have h3' : z ≠ Str.ofString "figure" := fun e => by rw [e] at h3; simp at h3); (dsimp only at h2'); simp [kstB, h1, h2', h3'])); (case zqp => exact ⟨by rw [valC_snoc, hd3, hp1], hd5⟩)))))
  (k_with "binaryOp Mult int int" => ((refine mul_int ?_ (IntMulOk.of_right (bits_small (by omega) (by omega))))))
  trivial
set_option maxRecDepth 100000 in
set_option maxHeartbeats 1500000 in
theorem value_spec {prog : Program} {w : World} {c radix : Int} {r dl : List Int} {t u : Tok} (hc : 0 ≤ c) (hfit : (c :: r).length ≤ 100000) (hfit2 : (bodyL (c :: r)).length ≤ 100000) (hdl : (bodyL (c :: r)).map loC = dl) (hne : dl ≠ [])
   (hok : ∀ x ∈ bodyL (c :: r), okc x) (hdg : ∀ x ∈ dl, lowdig radix x) (hr : radix ≤ 36) (hr2 : 2 ≤ radix) (hbits : Builtin.Int.intBits (valC radix dl) ≤ 65536) :
    Spec prog w (hd.heap_39 w.params) 660 6600 205 [.str (KStt.txt (c :: r)) t, .int radix u] [] (fun v nn => (∃ t', v = .int (if c = 45 then 0 - valC radix dl else valC radix dl) t') ∧ nn = []) := by
  subst hdl
  k_extra "my enter"
  intro pr loose mean mg mb outer A₀ base g L' h₁ s tk Q B F X N T lt ret
  have hln := txt_len (c :: r)
  k_steps
  · rename ((_ == _) = true) => hq
    exact absurd hq (txt_not_empty hne)
  · rename ((_ == _) = true) => hq
    rw [minus_test hc] at hq
    exact ret _ _ _ _ _ _ rfl ⟨int_of (by rw [if_pos (of_decide_eq_true hq), hp1, codes_txt (low_pos hdg)]), rfl⟩ (by assumption) News.nil
  · rename ((_ == _) = false) => hq
    rw [minus_test hc] at hq
    exact ret _ _ _ _ _ _ rfl ⟨int_of (by rw [if_neg (of_decide_eq_false hq), hp1, codes_txt (low_pos hdg)]), rfl⟩ (by assumption) News.nil
end PartMW
section PartMI
theorem word_12 : True := by
  k_with_none
  (k_with "my e0" => (((case ho | hcd => k_is); (case hr => decide); (case hb => first | exact fun s X => BindsTo.of_eq rfl | exact fun s X => binds_K X rfl (by k_is) rfl rfl rfl); (case hl => exact locs rfl); (case c1 | c2 | c3 => exact rfl); (case c4 => decide))))
  (k_with "my enter" => ((k_dflt (refine' spec_of ?ho ?hcd ?hr ?hb ?hl ?c1 ?c2 ?c3 ?c4 ?_; k_extra "my e0"))))
  (k_with "my enterR" => ((k_dflt (refine' specR_of ?ho ?hcd ?hr ?hb ?hl ?c1 ?c2 ?c3 ?c4 ?_; k_extra "my e0"))))
  (k_with "my rst" => (first | exact Rst.nil | exact Rst.all (fun _ _ => List.not_mem_nil) | exact Rst.all hown9 | (refine' Rst.drop ?ra ?rb; (case ra => k_extra "my in"); (case rb => k_extra "my rst")) | (refine' Rst.keep ?ra ?rb; (case ra => k_extra "my notin"); (case rb => k_extra "my rst"))))
  (k_with "my c1" => (((case a1 | a2 | a3 => exact rfl); (case a4 | a5 => exact Nat.le_of_ble_eq_true rfl))))
  (k_with "my c2" => (((case a7 => first | exact rfl | assumption); (case B | F | X | N | T => k_asm))))
  (k_with "my c4" => ((k_extra "my c1"; (case a6 => exact rfl); k_extra "my c2")))
  (k_with "my c3" => (((case hn => k_extra "my mem"); (case has => exact rfl); (case hr => k_extra "my rst"))))
  (k_with "eval Constant int" => ((refine wpAny_Constant_int ?_; (try dsimp only))))
  (k_with "evalPairs" => ((first | (refine pairTrees_cons_walk ?_; (try dsimp only)) | (refine pairTrees_nil_walk ?_; (try dsimp only)))))
  (k_with "my mem" => (first | exact List.forall_mem_nil _ | (refine' List.forall_mem_cons.mpr ⟨?ma, ?mb⟩; (case ma => k_mem); (case mb => k_extra "my mem"))))
  (k_with "my notin" => (first | exact List.not_mem_nil | (refine' notin_cons ?na ?nb; (case na => ((try dsimp only); first | k_extra "my ne" | omega)); (case nb => k_extra "my notin"))))
  (k_with "my in" => (first | exact List.Mem.head _ | (refine' List.Mem.tail _ ?_; k_extra "my in")))
  (k_with "my post" => (((try k_sweep); (try dsimp only); (try k_fold))))
  trivial
theorem body_of_x {prog : Program} {w : World} {x : Str} {c : Int} {r : List Int} {t : Tok} (hx : x = KStt.txt (c :: r)) (hc : 0 ≤ c) (hfit : (c :: r).length ≤ 100000) :
    Spec prog w (hd.heap_39 w.params) 700 7000 198 [.str x t] [] (fun v nn => (∃ t', v = .str (KStt.txt (bodyL (c :: r))) t') ∧ nn = []) := by
  subst hx
  exact body_of_spec hc hfit
theorem are_figures_x {prog : Program} {w : World} {x : Str} {l : List Int} {t : Tok} (hx : x = KStt.txt l) (hdg : ∀ x ∈ l, isDig x) (hne : l ≠ []) (hfit : l.length ≤ 100000) :
    Spec prog w (hd.heap_39 w.params) 680 6800 224 [.str x t] [] (fun v nn => v = .bool true ∧ nn = []) := by
  subst hx
  cases l with
  | nil => exact absurd rfl hne
  | cons c r => exact are_figures_spec hdg hfit
theorem value_x {prog : Program} {w : World} {x : Str} {c radix : Int} {r dl : List Int} {t u : Tok} (hx : x = KStt.txt (c :: r)) (hc : 0 ≤ c) (hfit : (c :: r).length ≤ 100000) (hfit2 : (bodyL (c :: r)).length ≤ 100000) (hdl : (bodyL (c :: r)).map loC = dl) (hne : dl ≠ [])
   (hok : ∀ x ∈ bodyL (c :: r), okc x) (hdg : ∀ x ∈ dl, lowdig radix x) (hr : radix ≤ 36) (hr2 : 2 ≤ radix) (hbits : Builtin.Int.intBits (valC radix dl) ≤ 65536) :
    Spec prog w (hd.heap_39 w.params) 660 6600 205 [.str x t, .int radix u] [] (fun v nn => (∃ t', v = .int (if c = 45 then 0 - valC radix dl else valC radix dl) t') ∧ nn = []) := by
  subst hx
  exact value_spec hc hfit hfit2 hdl hne hok hdg hr hr2 hbits
theorem word_13 : True := by
  (k_with "call ref" => ((k_here; first | ((with_reducible show wpAny _ _ (call (Value.ref 224) _) _ _ _); k_dflt ((show wpAny _ _ (call (Value.ref 224) [Value.str _ _]) _ _ _); refine' spec_ro (are_figures_x ?hx ?h0 ?h2 ?h1) ?a1 ?a2 ?a3 ?a4 ?a5 ?a6 ?a7 ?B ?F ?X ?N ?T ?hn ?_; k_extra "my c4"; (case hn => k_extra "my mem"); (case hx => exact rfl); (case h0 | h2 | h1 => assumption); k_whole; intro v9 h9 tk9 hP9 F9 N9; (subst hP9); k_extra "my post")) | ((with_reducible show wpAny _ _ (call (Value.ref 198) _) _ _ _); k_dflt ((show wpAny _ _ (call (Value.ref 198) [Value.str _ _]) _ _ _); refine' spec_ro (body_of_x ?hx ?h0 ?h1) ?a1 ?a2 ?a3 ?a4 ?a5 ?a6 ?a7 ?B ?F ?X ?N ?T ?hn ?_; k_extra "my c4"; (case hn => k_extra "my mem"); (case hx => first | assumption | (with_reducible exact rfl)); (case h0 | h1 => assumption); k_whole; intro v9 h9 tk9 hP9 F9 N9; (obtain ⟨t9, rfl⟩ := hP9); k_extra "my post")))))
  trivial
/-- a decimal word: its core and a point or none -/
def Dec (l : List Int) (c : Int) (r : List Int) : Prop := l = (c :: r) ++ [46] ∨ (l = c :: r ∧ ∃ l' d, c :: r = l' ++ [d] ∧ d ≠ 46 ∧ 0 ≤ d)
theorem dot_yes {l : List Int} : (Txt.slice (KStt.txt (l ++ [46])) (some (-1)) none == Str.ofString ".") = true := by
  rw [slice_last, s_dot]
  exact beq_self_eq_true _
theorem dot_no {l : List Int} {d : Int} (h : d ≠ 46) (h0 : 0 ≤ d) : (Txt.slice (KStt.txt (l ++ [d])) (some (-1)) none == Str.ofString ".") = false := by
  rw [slice_last, s_dot, txt_one h0 (by omega), decide_eq_false h]
set_option maxRecDepth 100000 in
set_option maxHeartbeats 1500000 in
theorem is_integer_spec {prog : Program} {w : World} {l : List Int} {c : Int} {r : List Int} {t : Tok} (hD : Dec l c r) (hc : 0 ≤ c) (hfit : (c :: r).length ≤ 100000) (hfit2 : (bodyL (c :: r)).length ≤ 100000) (hne : bodyL (c :: r) ≠ []) (hdg : ∀ x ∈ bodyL (c :: r), isDig x) :
    Spec prog w (hd.heap_39 w.params) 650 6500 212 [.str (KStt.txt l) t] [] (fun v nn => v = .bool true ∧ nn = []) := by
  k_extra "my enter"
  intro pr loose mean mg mb outer A₀ base g L' h₁ s tk Q B F X N T lt ret
  rcases hD with hl | ⟨rfl, l', d, he, hd1, hd2⟩
  · have hdot := dot_yes (l := c :: r)
    have hinit := slice_init (l := c :: r) (c := 46)
    have hln := txt_len ((c :: r) ++ [46])
    have hln2 : ((c :: r) ++ [46]).length = (c :: r).length + 1 := by simp
    rw [← hl] at hdot hinit hln hln2
    clear hl
    k_steps
    all_goals exact ret _ _ _ _ _ _ rfl ⟨rfl, rfl⟩ (by assumption) News.nil
  · have hdot := dot_no (l := l') hd1 hd2
    rw [← he] at hdot
    have hln := txt_len (c :: r)
    k_steps
    all_goals exact ret _ _ _ _ _ _ rfl ⟨rfl, rfl⟩ (by assumption) News.nil
theorem word_14 : True := by
  (k_with "call ref" => ((k_here; first | ((with_reducible show wpAny _ _ (call (Value.ref 205) _) _ _ _); k_dflt ((show wpAny _ _ (call (Value.ref 205) [Value.str _ _, Value.int _ _]) _ _ _); refine' spec_ro (value_x ?hx ?h0 ?h1 ?h2 ?h3 ?h4 ?h5 ?h6 ?h7 ?h8 ?h9) ?a1 ?a2 ?a3 ?a4 ?a5 ?a6 ?a7 ?B ?F ?X ?N ?T ?hn ?_; k_extra "my c4"; (case hn => k_extra "my mem"); (case hx => first | assumption | (with_reducible exact rfl)); (case h0 | h1 | h2 => assumption); (case h3 => exact rfl); (case h4 | h5 | h6 => assumption); (case h7 | h8 => omega); (case h9 => assumption); k_whole; intro v9 h9 tk9 hP9 F9 N9; (obtain ⟨t9, rfl⟩ := hP9); k_extra "my post")) | ((with_reducible show wpAny _ _ (call (Value.ref 212) _) _ _ _); k_dflt ((show wpAny _ _ (call (Value.ref 212) [Value.str _ _]) _ _ _); refine' spec_ro (is_integer_spec ?hd ?h0 ?h1 ?h2 ?h3 ?h4) ?a1 ?a2 ?a3 ?a4 ?a5 ?a6 ?a7 ?B ?F ?X ?N ?T ?hn ?_; k_extra "my c4"; (case hn => k_extra "my mem"); (case hd | h0 | h1 | h2 | h3 | h4 => assumption); k_whole; intro v9 h9 tk9 hP9 F9 N9; (subst hP9); k_extra "my post")))))
  trivial
set_option maxRecDepth 100000 in
set_option maxHeartbeats 1500000 in
theorem integer_of_spec {prog : Program} {w : World} {l : List Int} {c : Int} {r : List Int} {t : Tok} (hD : Dec l c r) (hc : 0 ≤ c) (hfit : (c :: r).length ≤ 100000) (hfit2 : (bodyL (c :: r)).length ≤ 100000) (hne : bodyL (c :: r) ≠ []) (hdg : ∀ x ∈ bodyL (c :: r), isDig x)
    (hne2 : (bodyL (c :: r)).map loC ≠ []) (hok : ∀ x ∈ bodyL (c :: r), okc x) (hdg2 : ∀ x ∈ (bodyL (c :: r)).map loC, lowdig 10 x) (hbits : Builtin.Int.intBits (valC 10 ((bodyL (c :: r)).map loC)) ≤ 65536) :
    Spec prog w (hd.heap_39 w.params) 640 6400 219 [.str (KStt.txt l) t] [] (fun v nn => (∃ t', v = .int (if c = 45 then 0 - valC 10 ((bodyL (c :: r)).map loC) else valC 10 ((bodyL (c :: r)).map loC)) t') ∧ nn = []) := by
  k_extra "my enter"
  intro pr loose mean mg mb outer A₀ base g L' h₁ s tk Q B F X N T lt ret
  have hD2 := hD
  rcases hD with hl | ⟨rfl, l', d, he, hd1, hd2⟩
  · have hdot := dot_yes (l := c :: r)
    have hinit := slice_init (l := c :: r) (c := 46)
    have hln := txt_len ((c :: r) ++ [46])
    have hln2 : ((c :: r) ++ [46]).length = (c :: r).length + 1 := by simp
    rw [← hl] at hdot hinit hln hln2
    clear hl
    k_steps
    all_goals exact ret _ _ _ _ _ _ rfl ⟨⟨_, rfl⟩, rfl⟩ (by assumption) News.nil
  · have hdot := dot_no (l := l') hd1 hd2
    rw [← he] at hdot
    have hln := txt_len (c :: r)
    k_steps
    all_goals exact ret _ _ _ _ _ _ rfl ⟨⟨_, rfl⟩, rfl⟩ (by assumption) News.nil
end PartMI
section PartMK
theorem word_15 : True := by
  k_with_none
  (k_with "my e0" => (((case ho | hcd => k_is); (case hr => decide); (case hb => first | exact fun s X => BindsTo.of_eq rfl | exact fun s X => binds_K X rfl (by k_is) rfl rfl rfl); (case hl => exact locs rfl); (case c1 | c2 | c3 => exact rfl); (case c4 => decide))))
  (k_with "my enter" => ((k_dflt (refine' spec_of ?ho ?hcd ?hr ?hb ?hl ?c1 ?c2 ?c3 ?c4 ?_; k_extra "my e0"))))
  (k_with "my enterR" => ((k_dflt (refine' specR_of ?ho ?hcd ?hr ?hb ?hl ?c1 ?c2 ?c3 ?c4 ?_; k_extra "my e0"))))
  (k_with "my rst" => (first | exact Rst.nil | exact Rst.all (fun _ _ => List.not_mem_nil) | exact Rst.all hown9 | (refine' Rst.drop ?ra ?rb; (case ra => k_extra "my in"); (case rb => k_extra "my rst")) | (refine' Rst.keep ?ra ?rb; (case ra => k_extra "my notin"); (case rb => k_extra "my rst"))))
  (k_with "my c1" => (((case a1 | a2 | a3 => exact rfl); (case a4 | a5 => exact Nat.le_of_ble_eq_true rfl))))
  (k_with "my c2" => (((case a7 => first | exact rfl | assumption); (case B | F | X | N | T => k_asm))))
  (k_with "my c4" => ((k_extra "my c1"; (case a6 => exact rfl); k_extra "my c2")))
  (k_with "my c3" => (((case hn => k_extra "my mem"); (case has => exact rfl); (case hr => k_extra "my rst"))))
  (k_with "eval Constant int" => ((refine wpAny_Constant_int ?_; (try dsimp only))))
  (k_with "evalPairs" => ((first | (refine pairTrees_cons_walk ?_; (try dsimp only)) | (refine pairTrees_nil_walk ?_; (try dsimp only)))))
  (k_with "my mem" => (first | exact List.forall_mem_nil _ | (refine' List.forall_mem_cons.mpr ⟨?ma, ?mb⟩; (case ma => k_mem); (case mb => k_extra "my mem"))))
  (k_with "my notin" => (first | exact List.not_mem_nil | (refine' notin_cons ?na ?nb; (case na => ((try dsimp only); first | k_extra "my ne" | omega)); (case nb => k_extra "my notin"))))
  (k_with "my in" => (first | exact List.Mem.head _ | (refine' List.Mem.tail _ ?_; k_extra "my in")))
  (k_with "my post" => (((try k_sweep); (try dsimp only); (try k_fold))))
  (k_with "my pre" => ((first | omega | (simp only [bne_iff_ne, ne_eq, beq_iff_eq, decide_eq_true_eq, Bool.not_eq_true'] ; omega))))
  (k_with "ite" => (first | (k_openite; goal_has Mine.codeAt; first | (refine ite_pos (by k_extra "my pre") ?_; walk_say "MINE") | (refine ite_neg (by k_extra "my pre") ?_; walk_say "MINE")) | (k_closed; first | (refine ite_pos (by decide) ?_; walk_say "MINEC") | (refine ite_neg (by decide) ?_; walk_say "MINEC"))))
  (k_with "WhlIf" => ((goal_has Mine.codeAt; first | (refine WhlIf.yes (by (simp only [bne_iff_ne, ne_eq, beq_iff_eq, decide_eq_true_eq, Bool.not_eq_true', Bool.and_eq_true] ; omega)) ?_; walk_say "MINE") | (refine WhlIf.no (by (simp only [bne_eq_false_iff_eq, beq_eq_false_iff_ne, ne_eq, decide_eq_false_iff_not, Bool.and_eq_false_iff] ; omega)) ?_; walk_say "MINE"))))
  (k_with "call ref" => ((k_here; first | ((with_reducible show wpAny _ _ (call (Value.ref 267) _) _ _ _); k_dflt ((show wpAny _ _ (call (Value.ref 267) [Value.ref _, Value.int _ _]) _ _ _); refine' spec_ro (code1_spec ?h0 ?h1 ?h3 ?h2) ?a1 ?a2 ?a3 ?a4 ?a5 ?a6 ?a7 ?B ?F ?X ?N ?T ?hn ?_; k_extra "my c4"; (case hn => k_extra "my mem"); (case h0 => assumption); (case h1 | h3 => omega); (case h2 => assumption); k_whole; intro v9 h9 tk9 hP9 F9 N9; (obtain ⟨t9, rfl⟩ := hP9); k_extra "my post")) | ((with_reducible show wpAny _ _ (call (Value.ref 267) _) _ _ _); k_dflt ((show wpAny _ _ (call (Value.ref 267) [Value.ref _]) _ _ _); refine' spec_ro (code0_spec ?h0 ?h1 ?h2) ?a1 ?a2 ?a3 ?a4 ?a5 ?a6 ?a7 ?B ?F ?X ?N ?T ?hn ?_; k_extra "my c4"; (case hn => k_extra "my mem"); (case h0 => assumption); (case h1 => omega); (case h2 => assumption); k_whole; intro v9 h9 tk9 hP9 F9 N9; (obtain ⟨t9, rfl⟩ := hP9); k_extra "my post")))))
  trivial
set_option maxRecDepth 100000 in
set_option maxHeartbeats 1500000 in
theorem skip_blanks_spec {prog : Program} {w : World} {x dx Cd : Addr} {vs : List Value} {cs : List Int} {nC : Nat} {p : Int} {t1 t2 t3 : Tok} (hi : IntsAre vs cs) (hp : 0 ≤ p) (hfit : cs.length ≤ 100000)
    (hq0 : 32 < codeAt cs p ∧ codeAt cs p ≠ 160 ∧ codeAt cs p ≠ 59 ∧ (codeAt cs p = 35 → codeAt cs (p + 1) ≠ 33)) :
    Spec prog w (hd.heap_39 w.params) 650 6500 281 [.ref x] (tokL w x dx Cd vs nC p t1 t2 t3) (fun v nn => v = .none ∧ nn = tokL w x dx Cd vs nC p t1 t2 t3) := by
  k_extra "my enter"
  intro pr loose mean mg mb outer A₀ base g L' h₁ s tk Q B F X N T lt ret
  k_lt lt
  k_steps
  all_goals exact ret _ _ _ _ _ _ rfl ⟨rfl, rfl⟩ (by assumption) (by assumption)
theorem word_16 : True := by
  (k_with "call ref" => ((k_here; first | ((with_reducible show wpAny _ _ (call (Value.ref 205) _) _ _ _); k_dflt ((show wpAny _ _ (call (Value.ref 205) [Value.str _ _, Value.int _ _]) _ _ _); refine' spec_ro (value_x ?hx ?h0 ?h1 ?h2 ?h3 ?h4 ?h5 ?h6 ?h7 ?h8 ?h9) ?a1 ?a2 ?a3 ?a4 ?a5 ?a6 ?a7 ?B ?F ?X ?N ?T ?hn ?_; k_extra "my c4"; (case hn => k_extra "my mem"); (case hx => first | assumption | (with_reducible exact rfl)); (case h0 | h1 | h2 => assumption); (case h3 => exact rfl); (case h4 | h5 | h6 => assumption); (case h7 | h8 => omega); (case h9 => assumption); k_whole; intro v9 h9 tk9 hP9 F9 N9; (obtain ⟨t9, rfl⟩ := hP9); k_extra "my post")) | ((with_reducible show wpAny _ _ (call (Value.ref 309) _) _ _ _); k_dflt ((show wpAny _ _ (call (Value.ref 309) [Value.ref _]) _ _ _); refine' spec_use' (name_spec ?h0 ?h1 ?h2 ?h3 ?h4 ?h5 ?h6 ?h7) ?a1 ?a2 ?a3 ?a4 ?a5 ?a6 ?a7 ?B ?F ?X ?N ?T ?hn ?has ?hr ?_; k_extra "my c4"; k_extra "my c3"; (case h0 => assumption); (case h1 | h2 => omega); (case h3 | h4 | h5 | h6 | h7 => assumption); k_whole; intro v9 nn9 h9 tk9 hP9 F9 N9 fr9; (obtain ⟨T9, t9, t39, k9, hT9, rfl, rfl⟩ := hP9); (rw [hw] at N9); (simp only [tokL, List.cons_append, List.nil_append] at N9); k_extra "my post")))))
  trivial
set_option maxRecDepth 100000 in
set_option maxHeartbeats 1500000 in
theorem in_radix_spec {prog : Program} {w : World} {x dx Cd : Addr} {vs : List Value} {cs : List Int} {nC : Nat} {p radix c : Int} {r : List Int} {t1 t2 t3 u : Tok} {st : Value} (hi : IntsAre vs cs) (hp0 : 0 ≤ p) (hp2 : p ≤ (cs.length : Int)) (hfit : cs.length ≤ 100000)
    (n1 : @Ne Nat x dx) (n2 : @Ne Nat x Cd) (n3 : @Ne Nat dx Cd) (hoka : ∀ c ∈ cs.drop p.toNat, okc c) (hw : cs.drop p.toNat = c :: r)
    (hc : 0 ≤ c) (hfit1 : (c :: r).length ≤ 100000) (hfit2 : (bodyL (c :: r)).length ≤ 100000) (hne : (bodyL (c :: r)).map loC ≠ [])
   (hok : ∀ x ∈ bodyL (c :: r), okc x) (hdg : ∀ x ∈ (bodyL (c :: r)).map loC, lowdig radix x) (hr : radix ≤ 36) (hr2 : 2 ≤ radix) (hbits : Builtin.Int.intBits (valC radix ((bodyL (c :: r)).map loC)) ≤ 65536) :
    Spec prog w (hd.heap_39 w.params) 640 6400 330 [.ref x, .int radix u, st] (tokL w x dx Cd vs nC p t1 t2 t3)
      (fun v nn => ∃ t t3', v = .int (if c = 45 then 0 - valC radix ((bodyL (c :: r)).map loC) else valC radix ((bodyL (c :: r)).map loC)) t ∧ nn = tokL w x dx Cd vs nC (cs.length : Int) t1 t2 t3') := by
  k_extra "my enter"
  intro pr loose mean mg mb outer A₀ base g L' h₁ s tk Q B F X N T lt ret
  k_lt lt
  k_steps
  all_goals exact ret _ _ _ _ _ _ rfl ⟨_, _, rfl, rfl⟩ (by assumption) (cb_drop (by assumption) (by k_extra "my mem"))
end PartMK
section PartMG
theorem word_17 : True := by
  k_with_none
  (k_with "my e0" => (((case ho | hcd => k_is); (case hr => decide); (case hb => first | exact fun s X => BindsTo.of_eq rfl | exact fun s X => binds_K X rfl (by k_is) rfl rfl rfl); (case hl => exact locs rfl); (case c1 | c2 | c3 => exact rfl); (case c4 => decide))))
  (k_with "my enter" => ((k_dflt (refine' spec_of ?ho ?hcd ?hr ?hb ?hl ?c1 ?c2 ?c3 ?c4 ?_; k_extra "my e0"))))
  (k_with "my enterR" => ((k_dflt (refine' specR_of ?ho ?hcd ?hr ?hb ?hl ?c1 ?c2 ?c3 ?c4 ?_; k_extra "my e0"))))
  (k_with "my rst" => (first | exact Rst.nil | exact Rst.all (fun _ _ => List.not_mem_nil) | exact Rst.all hown9 | (refine' Rst.drop ?ra ?rb; (case ra => k_extra "my in"); (case rb => k_extra "my rst")) | (refine' Rst.keep ?ra ?rb; (case ra => k_extra "my notin"); (case rb => k_extra "my rst"))))
  (k_with "my c1" => (((case a1 | a2 | a3 => exact rfl); (case a4 | a5 => exact Nat.le_of_ble_eq_true rfl))))
  (k_with "my c2" => (((case a7 => first | exact rfl | assumption); (case B | F | X | N | T => k_asm))))
  (k_with "my c4" => ((k_extra "my c1"; (case a6 => exact rfl); k_extra "my c2")))
  (k_with "my c3" => (((case hn => k_extra "my mem"); (case has => exact rfl); (case hr => k_extra "my rst"))))
  (k_with "eval Constant int" => ((refine wpAny_Constant_int ?_; (try dsimp only))))
  (k_with "evalPairs" => ((first | (refine pairTrees_cons_walk ?_; (try dsimp only)) | (refine pairTrees_nil_walk ?_; (try dsimp only)))))
  (k_with "my mem" => (first | exact List.forall_mem_nil _ | (refine' List.forall_mem_cons.mpr ⟨?ma, ?mb⟩; (case ma => k_mem); (case mb => k_extra "my mem"))))
  (k_with "my notin" => (first | exact List.not_mem_nil | (refine' notin_cons ?na ?nb; (case na => ((try dsimp only); first | k_extra "my ne" | omega)); (case nb => k_extra "my notin"))))
  (k_with "my in" => (first | exact List.Mem.head _ | (refine' List.Mem.tail _ ?_; k_extra "my in")))
  (k_with "my post" => (((try k_sweep); (try dsimp only); (try k_fold))))
  (k_with "my pre" => ((first | omega | (simp only [bne_iff_ne, ne_eq, beq_iff_eq, decide_eq_true_eq, Bool.not_eq_true'] ; omega))))
  (k_with "ite" => (first | (k_openite; goal_has Mine.codeAt; first | (refine ite_pos (by k_extra "my pre") ?_; walk_say "MINE") | (refine ite_neg (by k_extra "my pre") ?_; walk_say "MINE")) | (k_closed; first | (refine ite_pos (by decide) ?_; walk_say "MINEC") | (refine ite_neg (by decide) ?_; walk_say "MINEC"))))
  (k_with "WhlIf" => ((goal_has Mine.codeAt; first | (refine WhlIf.yes (by (simp only [bne_iff_ne, ne_eq, beq_iff_eq, decide_eq_true_eq, Bool.not_eq_true', Bool.and_eq_true] ; omega)) ?_; walk_say "MINE") | (refine WhlIf.no (by (simp only [bne_eq_false_iff_eq, beq_eq_false_iff_ne, ne_eq, decide_eq_false_iff_not, Bool.and_eq_false_iff] ; omega)) ?_; walk_say "MINE"))))
  trivial
theorem in_radix_x {prog : Program} {w : World} {x dx Cd : Addr} {vs : List Value} {cs : List Int} {nC : Nat} {p radix rx c : Int} {r : List Int} {t1 t2 t3 u : Tok} {st : Value} (hx : rx = radix) (hi : IntsAre vs cs) (hp0 : 0 ≤ p) (hp2 : p ≤ (cs.length : Int)) (hfit : cs.length ≤ 100000)
    (n1 : @Ne Nat x dx) (n2 : @Ne Nat x Cd) (n3 : @Ne Nat dx Cd) (hoka : ∀ c ∈ cs.drop p.toNat, okc c) (hw : cs.drop p.toNat = c :: r)
    (hc : 0 ≤ c) (hfit1 : (c :: r).length ≤ 100000) (hfit2 : (bodyL (c :: r)).length ≤ 100000) (hne : (bodyL (c :: r)).map loC ≠ [])
   (hok : ∀ x ∈ bodyL (c :: r), okc x) (hdg : ∀ x ∈ (bodyL (c :: r)).map loC, lowdig radix x) (hr : radix ≤ 36) (hr2 : 2 ≤ radix) (hbits : Builtin.Int.intBits (valC radix ((bodyL (c :: r)).map loC)) ≤ 65536) :
    Spec prog w (hd.heap_39 w.params) 640 6400 330 [.ref x, .int rx u, st] (tokL w x dx Cd vs nC p t1 t2 t3)
      (fun v nn => ∃ t t3', v = .int (if c = 45 then 0 - valC radix ((bodyL (c :: r)).map loC) else valC radix ((bodyL (c :: r)).map loC)) t ∧ nn = tokL w x dx Cd vs nC (cs.length : Int) t1 t2 t3') := by
  subst hx
  exact in_radix_spec hi hp0 hp2 hfit n1 n2 n3 hoka hw hc hfit1 hfit2 hne hok hdg hr hr2 hbits
theorem word_18 : True := by
  (k_with "call ref" => ((k_here; first | ((with_reducible show wpAny _ _ (call (Value.ref 330) _) _ _ _); k_dflt ((show wpAny _ _ (call (Value.ref 330) [Value.ref _, Value.int _ _, _]) _ _ _); refine' spec_use' (in_radix_x ?hx ?h0 ?h1 ?h2 ?h3 ?h4 ?h5 ?h6 ?h7 ?h8 ?h9 ?h10 ?h11 ?h12 ?h13 ?h14 ?h15 ?h16 ?h17) ?a1 ?a2 ?a3 ?a4 ?a5 ?a6 ?a7 ?B ?F ?X ?N ?T ?hn ?has ?hr ?_; k_extra "my c4"; k_extra "my c3"; (case hx => first | exact rfl | decide | omega); (case h0 => assumption); (case h1 | h2 => omega); (case h3 | h4 | h5 | h6 | h8 | h7 | h9 | h10 | h11 | h12 | h13 | h14 => assumption); (case h15 | h16 => first | decide | omega); (case h17 => assumption); k_whole; intro v9 nn9 h9 tk9 hP9 F9 N9 fr9; (obtain ⟨t9, t39, rfl, rfl⟩ := hP9); (simp only [tokL, List.cons_append, List.nil_append] at N9); k_extra "my post")) | ((with_reducible show wpAny _ _ (call (Value.ref 267) _) _ _ _); k_dflt ((show wpAny _ _ (call (Value.ref 267) [Value.ref _, Value.int _ _]) _ _ _); refine' spec_ro (code1_spec ?h0 ?h1 ?h3 ?h2) ?a1 ?a2 ?a3 ?a4 ?a5 ?a6 ?a7 ?B ?F ?X ?N ?T ?hn ?_; k_extra "my c4"; (case hn => k_extra "my mem"); (case h0 => assumption); (case h1 | h3 => omega); (case h2 => assumption); k_whole; intro v9 h9 tk9 hP9 F9 N9; (obtain ⟨t9, rfl⟩ := hP9); (try simp only [hq0, hq1, hq2]); k_extra "my post")) | ((with_reducible show wpAny _ _ (call (Value.ref 267) _) _ _ _); k_dflt ((show wpAny _ _ (call (Value.ref 267) [Value.ref _]) _ _ _); refine' spec_ro (code0_spec ?h0 ?h1 ?h2) ?a1 ?a2 ?a3 ?a4 ?a5 ?a6 ?a7 ?B ?F ?X ?N ?T ?hn ?_; k_extra "my c4"; (case hn => k_extra "my mem"); (case h0 => assumption); (case h1 => omega); (case h2 => assumption); k_whole; intro v9 h9 tk9 hP9 F9 N9; (obtain ⟨t9, rfl⟩ := hP9); (try simp only [hq0, hq1, hq2]); k_extra "my post")))))
  trivial
abbrev intT (val : Int) (t t0 : Tok) (st : Value) (k : Nat) : Obj := { cls := .type "tuple", data := .seq #[.str (Str.ofString "integer") t0, .int val t, st] k }
set_option maxRecDepth 100000 in
set_option maxHeartbeats 1500000 in
theorem numbered_spec {prog : Program} {w : World} {x dx Cd : Addr} {vs : List Value} {cs : List Int} {nC : Nat} {p c : Int} {r : List Int} {t1 t2 t3 : Tok} {st : Value} (hi : IntsAre vs cs) (hp0 : 0 ≤ p) (hp2 : p + 1 + 1 + 1 ≤ (cs.length : Int)) (hfit : cs.length ≤ 100000)
    (n1 : @Ne Nat x dx) (n2 : @Ne Nat x Cd) (n3 : @Ne Nat dx Cd) (hq0 : codeAt cs p = 51) (hq1 : codeAt cs (p + 1) = 54) (hq2 : codeAt cs (p + 1 + 1) = 114) (hoka : ∀ c ∈ cs.drop (p + 1 + 1 + 1).toNat, okc c) (hw : cs.drop (p + 1 + 1 + 1).toNat = c :: r)
    (hc : 0 ≤ c) (hfit1 : (c :: r).length ≤ 100000) (hfit2 : (bodyL (c :: r)).length ≤ 100000) (hne : (bodyL (c :: r)).map loC ≠ [])
   (hok : ∀ x ∈ bodyL (c :: r), okc x) (hdg : ∀ x ∈ (bodyL (c :: r)).map loC, lowdig 36 x) (hbits : Builtin.Int.intBits (valC 36 ((bodyL (c :: r)).map loC)) ≤ 65536) :
    Spec prog w (hd.heap_39 w.params) 630 6300 337 [.ref x, st] (tokL w x dx Cd vs nC p t1 t2 t3)
      (fun v nn => ∃ T t t0 t3' k, (x < T ∧ dx < T ∧ Cd < T) ∧ v = .ref T ∧ nn = (T, intT (if c = 45 then 0 - valC 36 ((bodyL (c :: r)).map loC) else valC 36 ((bodyL (c :: r)).map loC)) t t0 st k) :: tokL w x dx Cd vs nC (cs.length : Int) t1 t2 t3') := by
  k_extra "my enter"
  intro pr loose mean mg mb outer A₀ base g L' h₁ s tk Q B F X N T lt ret
  k_lt lt
  k_steps
  all_goals exact ret _ _ _ _ _ _ rfl ⟨_, _, _, _, _, ⟨ltN (by omega), ltN (by omega), ltN (by omega)⟩, rfl, rfl⟩ (by assumption) (cb_drop (by assumption) (by k_extra "my mem"))
theorem word_19 : True := by
  (k_with "call ref" => ((k_here; first | ((with_reducible show wpAny _ _ (call (Value.ref 337) _) _ _ _); k_dflt ((show wpAny _ _ (call (Value.ref 337) [Value.ref _, _]) _ _ _); refine' spec_use' (numbered_spec ?h0 ?h1 ?h2 ?h3 ?h4 ?h5 ?h6 ?hq0 ?hq1 ?hq2 ?h8 ?h7 ?h9 ?h10 ?h11 ?h12 ?h13 ?h14 ?h17) ?a1 ?a2 ?a3 ?a4 ?a5 ?a6 ?a7 ?B ?F ?X ?N ?T ?hn ?has ?hr ?_; k_extra "my c4"; k_extra "my c3"; (case h0 => assumption); (case h1 | h2 => omega); (case h3 | h4 | h5 | h6 | hq0 | hq1 | hq2 | h8 | h7 | h9 | h10 | h11 | h12 | h13 | h14 | h17 => assumption); k_whole; intro v9 nn9 h9 tk9 hP9 F9 N9 fr9; (obtain ⟨T9, t9, t09, t39, k9, hT9, rfl, rfl⟩ := hP9); (simp only [tokL, List.cons_append, List.nil_append] at N9); k_extra "my post")))))
  trivial
abbrev valS (radix c : Int) (r : List Int) : Int := if c = 45 then 0 - valC radix ((bodyL (c :: r)).map loC) else valC radix ((bodyL (c :: r)).map loC)
set_option maxRecDepth 100000 in
set_option maxHeartbeats 1500000 in
theorem dispatchedN_spec {prog : Program} {w : World} {x dx Cd : Addr} {vs : List Value} {cs : List Int} {nC : Nat} {p c : Int} {r : List Int} {t1 t2 t3 u : Tok} (hi : IntsAre vs cs) (hp0 : 0 ≤ p) (hp2 : p + 1 + 1 + 1 + 1 ≤ (cs.length : Int)) (hfit : cs.length ≤ 100000)
    (n1 : @Ne Nat x dx) (n2 : @Ne Nat x Cd) (n3 : @Ne Nat dx Cd) (hq0 : codeAt cs (p + 1) = 51) (hq1 : codeAt cs (p + 1 + 1) = 54) (hq2 : codeAt cs (p + 1 + 1 + 1) = 114) (hoka : ∀ c ∈ cs.drop (p + 1 + 1 + 1 + 1).toNat, okc c) (hw : cs.drop (p + 1 + 1 + 1 + 1).toNat = c :: r)
    (hc : 0 ≤ c) (hfit1 : (c :: r).length ≤ 100000) (hfit2 : (bodyL (c :: r)).length ≤ 100000) (hne : (bodyL (c :: r)).map loC ≠ [])
   (hok : ∀ x ∈ bodyL (c :: r), okc x) (hdg : ∀ x ∈ (bodyL (c :: r)).map loC, lowdig 36 x) (hbits : Builtin.Int.intBits (valC 36 ((bodyL (c :: r)).map loC)) ≤ 65536) :
    Spec prog w (hd.heap_39 w.params) 620 6200 323 [.ref x, .int p u] (tokL w x dx Cd vs nC p t1 t2 t3)
      (fun v nn => ∃ T t t0 t3' k, (x < T ∧ dx < T ∧ Cd < T) ∧ v = .ref T ∧ nn = (T, intT (valS 36 c r) t t0 (.int p u) k) :: tokL w x dx Cd vs nC (cs.length : Int) t1 t2 t3') := by
  k_extra "my enter"
  intro pr loose mean mg mb outer A₀ base g L' h₁ s tk Q B F X N T lt ret
  k_lt lt
  k_steps
  all_goals exact ret _ _ _ _ _ _ rfl ⟨_, _, _, _, _, by assumption, rfl, rfl⟩ (by assumption) (cb_drop (by assumption) (by k_extra "my mem"))
set_option maxRecDepth 100000 in
set_option maxHeartbeats 1500000 in
theorem dispatchedR_spec {prog : Program} {w : World} {x dx Cd : Addr} {vs : List Value} {cs : List Int} {nC : Nat} {p c k radix : Int} {r : List Int} {t1 t2 t3 u : Tok} (hi : IntsAre vs cs) (hp0 : 0 ≤ p) (hp2 : p + 2 ≤ (cs.length : Int)) (hfit : cs.length ≤ 100000)
    (n1 : @Ne Nat x dx) (n2 : @Ne Nat x Cd) (n3 : @Ne Nat dx Cd) (hq0 : codeAt cs (p + 1) = k) (hk : k = 98 ∧ radix = 2 ∨ k = 111 ∧ radix = 8 ∨ k = 120 ∧ radix = 16) (hoka : ∀ c ∈ cs.drop (p + 2).toNat, okc c) (hw : cs.drop (p + 2).toNat = c :: r)
    (hc : 0 ≤ c) (hfit1 : (c :: r).length ≤ 100000) (hfit2 : (bodyL (c :: r)).length ≤ 100000) (hne : (bodyL (c :: r)).map loC ≠ [])
   (hok : ∀ x ∈ bodyL (c :: r), okc x) (hdg : ∀ x ∈ (bodyL (c :: r)).map loC, lowdig radix x) (hbits : Builtin.Int.intBits (valC radix ((bodyL (c :: r)).map loC)) ≤ 65536) :
    Spec prog w (hd.heap_39 w.params) 620 6200 323 [.ref x, .int p u] (tokL w x dx Cd vs nC p t1 t2 t3)
      (fun v nn => ∃ T t t0 t3' k, (x < T ∧ dx < T ∧ Cd < T) ∧ v = .ref T ∧ nn = (T, intT (valS radix c r) t t0 (.int p u) k) :: tokL w x dx Cd vs nC (cs.length : Int) t1 t2 t3') := by
  k_extra "my enter"
  intro pr loose mean mg mb outer A₀ base g L' h₁ s tk Q B F X N T lt ret
  k_lt lt
  have hq1 := hq0
  have hq2 := hq0
  rcases hk with ⟨rfl, rfl⟩ | ⟨rfl, rfl⟩ | ⟨rfl, rfl⟩
  all_goals (k_steps)
  all_goals exact ret _ _ _ _ _ _ rfl ⟨_, _, _, _, _, ⟨ltN (by omega), ltN (by omega), ltN (by omega)⟩, rfl, rfl⟩ (by assumption) (cb_drop (by assumption) (by k_extra "my mem"))
end PartMG
section PartMH
theorem word_20 : True := by
  k_with_none
  (k_with "my e0" => (((case ho | hcd => k_is); (case hr => decide); (case hb => first | exact fun s X => BindsTo.of_eq rfl | exact fun s X => binds_K X rfl (by k_is) rfl rfl rfl); (case hl => exact locs rfl); (case c1 | c2 | c3 => exact rfl); (case c4 => decide))))
  (k_with "my enter" => ((k_dflt (refine' spec_of ?ho ?hcd ?hr ?hb ?hl ?c1 ?c2 ?c3 ?c4 ?_; k_extra "my e0"))))
  (k_with "my enterR" => ((k_dflt (refine' specR_of ?ho ?hcd ?hr ?hb ?hl ?c1 ?c2 ?c3 ?c4 ?_; k_extra "my e0"))))
  (k_with "my rst" => (first | exact Rst.nil | exact Rst.all (fun _ _ => List.not_mem_nil) | exact Rst.all hown9 | (refine' Rst.drop ?ra ?rb; (case ra => k_extra "my in"); (case rb => k_extra "my rst")) | (refine' Rst.keep ?ra ?rb; (case ra => k_extra "my notin"); (case rb => k_extra "my rst"))))
  (k_with "my c1" => (((case a1 | a2 | a3 => exact rfl); (case a4 | a5 => exact Nat.le_of_ble_eq_true rfl))))
  (k_with "my c2" => (((case a7 => first | exact rfl | assumption); (case B | F | X | N | T => k_asm))))
  (k_with "my c4" => ((k_extra "my c1"; (case a6 => exact rfl); k_extra "my c2")))
  (k_with "my c3" => (((case hn => k_extra "my mem"); (case has => exact rfl); (case hr => k_extra "my rst"))))
  (k_with "eval Constant int" => ((refine wpAny_Constant_int ?_; (try dsimp only))))
  (k_with "evalPairs" => ((first | (refine pairTrees_cons_walk ?_; (try dsimp only)) | (refine pairTrees_nil_walk ?_; (try dsimp only)))))
  (k_with "my mem" => (first | exact List.forall_mem_nil _ | (refine' List.forall_mem_cons.mpr ⟨?ma, ?mb⟩; (case ma => k_mem); (case mb => k_extra "my mem"))))
  (k_with "my notin" => (first | exact List.not_mem_nil | (refine' notin_cons ?na ?nb; (case na => ((try dsimp only); first | k_extra "my ne" | omega)); (case nb => k_extra "my notin"))))
  (k_with "my in" => (first | exact List.Mem.head _ | (refine' List.Mem.tail _ ?_; k_extra "my in")))
  (k_with "my post" => (((try k_sweep); (try dsimp only); (try k_fold))))
  (k_with "my pre" => ((first | omega | (simp only [bne_iff_ne, ne_eq, beq_iff_eq, decide_eq_true_eq, Bool.not_eq_true'] ; omega))))
  (k_with "ite" => (first | (k_openite; goal_has Mine.codeAt; first | (refine ite_pos (by k_extra "my pre") ?_; walk_say "MINE") | (refine ite_neg (by k_extra "my pre") ?_; walk_say "MINE")) | (k_closed; first | (refine ite_pos (by decide) ?_; walk_say "MINEC") | (refine ite_neg (by decide) ?_; walk_say "MINEC"))))
  (k_with "WhlIf" => ((goal_has Mine.codeAt; first | (refine WhlIf.yes (by (simp only [bne_iff_ne, ne_eq, beq_iff_eq, decide_eq_true_eq, Bool.not_eq_true', Bool.and_eq_true] ; omega)) ?_; walk_say "MINE") | (refine WhlIf.no (by (simp only [bne_eq_false_iff_eq, beq_eq_false_iff_ne, ne_eq, decide_eq_false_iff_not, Bool.and_eq_false_iff] ; omega)) ?_; walk_say "MINE"))))
  trivial
/-- a word of figures behind a place -/
structure WordOk (cs : List Int) (q radix c : Int) (r : List Int) : Prop where
  hoka : ∀ c ∈ cs.drop q.toNat, okc c
  hw : cs.drop q.toNat = c :: r
  hc : 0 ≤ c
  hfit1 : (c :: r).length ≤ 100000
  hfit2 : (bodyL (c :: r)).length ≤ 100000
  hne : (bodyL (c :: r)).map loC ≠ []
  hok : ∀ x ∈ bodyL (c :: r), okc x
  hdg : ∀ x ∈ (bodyL (c :: r)).map loC, lowdig radix x
  hbits : Builtin.Int.intBits (valC radix ((bodyL (c :: r)).map loC)) ≤ 65536
theorem dispatchedR_w {prog : Program} {w : World} {x dx Cd : Addr} {vs : List Value} {cs : List Int} {nC : Nat} {p c k radix : Int} {r : List Int} {t1 t2 t3 u : Tok} (hi : IntsAre vs cs) (hp0 : 0 ≤ p) (hp2 : p + 2 ≤ (cs.length : Int)) (hfit : cs.length ≤ 100000)
    (n1 : @Ne Nat x dx) (n2 : @Ne Nat x Cd) (n3 : @Ne Nat dx Cd) (hq0 : codeAt cs (p + 1) = k) (hk : k = 98 ∧ radix = 2 ∨ k = 111 ∧ radix = 8 ∨ k = 120 ∧ radix = 16) (W : WordOk cs (p + 2) radix c r) :
    Spec prog w (hd.heap_39 w.params) 620 6200 323 [.ref x, .int p u] (tokL w x dx Cd vs nC p t1 t2 t3)
      (fun v nn => ∃ T t t0 t3' k, (x < T ∧ dx < T ∧ Cd < T) ∧ v = .ref T ∧ nn = (T, intT (valS radix c r) t t0 (.int p u) k) :: tokL w x dx Cd vs nC (cs.length : Int) t1 t2 t3') :=
  dispatchedR_spec hi hp0 hp2 hfit n1 n2 n3 hq0 hk W.hoka W.hw W.hc W.hfit1 W.hfit2 W.hne W.hok W.hdg W.hbits
theorem dispatchedN_w {prog : Program} {w : World} {x dx Cd : Addr} {vs : List Value} {cs : List Int} {nC : Nat} {p c : Int} {r : List Int} {t1 t2 t3 u : Tok} (hi : IntsAre vs cs) (hp0 : 0 ≤ p) (hp2 : p + 1 + 1 + 1 + 1 ≤ (cs.length : Int)) (hfit : cs.length ≤ 100000)
    (n1 : @Ne Nat x dx) (n2 : @Ne Nat x Cd) (n3 : @Ne Nat dx Cd) (hq0 : codeAt cs (p + 1) = 51) (hq1 : codeAt cs (p + 1 + 1) = 54) (hq2 : codeAt cs (p + 1 + 1 + 1) = 114) (W : WordOk cs (p + 1 + 1 + 1 + 1) 36 c r) :
    Spec prog w (hd.heap_39 w.params) 620 6200 323 [.ref x, .int p u] (tokL w x dx Cd vs nC p t1 t2 t3)
      (fun v nn => ∃ T t t0 t3' k, (x < T ∧ dx < T ∧ Cd < T) ∧ v = .ref T ∧ nn = (T, intT (valS 36 c r) t t0 (.int p u) k) :: tokL w x dx Cd vs nC (cs.length : Int) t1 t2 t3') :=
  dispatchedN_spec hi hp0 hp2 hfit n1 n2 n3 hq0 hq1 hq2 W.hoka W.hw W.hc W.hfit1 W.hfit2 W.hne W.hok W.hdg W.hbits
/-- a decimal word from a place on -/
structure DecOk (cs : List Int) (q c : Int) (r l : List Int) : Prop where
  hoka : ∀ c ∈ cs.drop q.toNat, okc c
  hw : cs.drop q.toNat = l
  hD : Dec l c r
  hc : 0 ≤ c
  hfit1 : (c :: r).length ≤ 100000
  hfit2 : (bodyL (c :: r)).length ≤ 100000
  hne1 : bodyL (c :: r) ≠ []
  hdd : ∀ x ∈ bodyL (c :: r), isDig x
  hne : (bodyL (c :: r)).map loC ≠ []
  hok : ∀ x ∈ bodyL (c :: r), okc x
  hdg : ∀ x ∈ (bodyL (c :: r)).map loC, lowdig 10 x
  hbits : Builtin.Int.intBits (valC 10 ((bodyL (c :: r)).map loC)) ≤ 65536
  hnd : (KStt.txt l == Str.ofString ".") = false
theorem word_21 : True := by
  (k_with "call ref" => ((k_here; first | ((with_reducible show wpAny _ _ (call (Value.ref 219) _) _ _ _); k_dflt ((show wpAny _ _ (call (Value.ref 219) [Value.str (KStt.txt _) _]) _ _ _); refine' spec_ro (integer_of_spec ?h0 ?h1 ?h2 ?h3 ?h4 ?h5 ?h6 ?h7 ?h8 ?h9) ?a1 ?a2 ?a3 ?a4 ?a5 ?a6 ?a7 ?B ?F ?X ?N ?T ?hn ?_; k_extra "my c4"; (case hn => k_extra "my mem"); (case h0 | h1 | h2 | h3 | h4 | h5 | h6 | h7 | h8 | h9 => assumption); k_whole; intro v9 h9 tk9 hP9 F9 N9; (obtain ⟨t9, rfl⟩ := hP9); k_extra "my post")) | ((with_reducible show wpAny _ _ (call (Value.ref 309) _) _ _ _); k_dflt ((show wpAny _ _ (call (Value.ref 309) [Value.ref _]) _ _ _); refine' spec_use' (name_spec ?h0 ?h1 ?h2 ?h3 ?h4 ?h5 ?h6 ?h7) ?a1 ?a2 ?a3 ?a4 ?a5 ?a6 ?a7 ?B ?F ?X ?N ?T ?hn ?has ?hr ?_; k_extra "my c4"; k_extra "my c3"; (case h0 => assumption); (case h1 | h2 => omega); (case h3 | h4 | h5 | h6 | h7 => assumption); k_whole; intro v9 nn9 h9 tk9 hP9 F9 N9 fr9; (obtain ⟨T9, t9, t39, k9, hT9, rfl, rfl⟩ := hP9); (rw [hw] at N9); (simp only [tokL, List.cons_append, List.nil_append] at N9); k_extra "my post")) | ((with_reducible show wpAny _ _ (call (Value.ref 267) _) _ _ _); k_dflt ((show wpAny _ _ (call (Value.ref 267) [Value.ref _, Value.int _ _]) _ _ _); refine' spec_ro (code1_spec ?h0 ?h1 ?h3 ?h2) ?a1 ?a2 ?a3 ?a4 ?a5 ?a6 ?a7 ?B ?F ?X ?N ?T ?hn ?_; k_extra "my c4"; (case hn => k_extra "my mem"); (case h0 => assumption); (case h1 | h3 => omega); (case h2 => assumption); k_whole; intro v9 h9 tk9 hP9 F9 N9; (obtain ⟨t9, rfl⟩ := hP9); k_extra "my post")) | ((with_reducible show wpAny _ _ (call (Value.ref 267) _) _ _ _); k_dflt ((show wpAny _ _ (call (Value.ref 267) [Value.ref _]) _ _ _); refine' spec_ro (code0_spec ?h0 ?h1 ?h2) ?a1 ?a2 ?a3 ?a4 ?a5 ?a6 ?a7 ?B ?F ?X ?N ?T ?hn ?_; k_extra "my c4"; (case hn => k_extra "my mem"); (case h0 => assumption); (case h1 => omega); (case h2 => assumption); k_whole; intro v9 h9 tk9 hP9 F9 N9; (obtain ⟨t9, rfl⟩ := hP9); k_extra "my post")))))
  trivial
set_option maxRecDepth 100000 in
set_option maxHeartbeats 1500000 in
theorem word_spec {prog : Program} {w : World} {x dx Cd : Addr} {vs : List Value} {cs : List Int} {nC : Nat} {p c : Int} {r l : List Int} {t1 t2 t3 u : Tok} (hi : IntsAre vs cs) (hp0 : 0 ≤ p) (hp2 : p ≤ (cs.length : Int)) (hfit : cs.length ≤ 100000)
    (n1 : @Ne Nat x dx) (n2 : @Ne Nat x Cd) (n3 : @Ne Nat dx Cd) (W : DecOk cs p c r l) :
    Spec prog w (hd.heap_39 w.params) 620 6200 316 [.ref x, .int p u] (tokL w x dx Cd vs nC p t1 t2 t3)
      (fun v nn => ∃ T t t0 t3' k, (x < T ∧ dx < T ∧ Cd < T) ∧ v = .ref T ∧ nn = (T, intT (valS 10 c r) t t0 (.int p u) k) :: tokL w x dx Cd vs nC (cs.length : Int) t1 t2 t3') := by
  k_extra "my enter"
  intro pr loose mean mg mb outer A₀ base g L' h₁ s tk Q B F X N T lt ret
  k_lt lt
  obtain ⟨hoka, hw, hD, hc, hfit1, hfit2, hne1, hdd, hne, hok, hdg, hbits, hnd⟩ := W
  k_steps
  all_goals exact ret _ _ _ _ _ _ rfl ⟨_, _, _, _, _, ⟨ltN (by omega), ltN (by omega), ltN (by omega)⟩, rfl, rfl⟩ (by assumption) (cb_drop (by assumption) (by k_extra "my mem"))
end PartMH
section PartMJ
theorem word_22 : True := by
  k_with_none
  (k_with "my e0" => (((case ho | hcd => k_is); (case hr => decide); (case hb => first | exact fun s X => BindsTo.of_eq rfl | exact fun s X => binds_K X rfl (by k_is) rfl rfl rfl); (case hl => exact locs rfl); (case c1 | c2 | c3 => exact rfl); (case c4 => decide))))
  (k_with "my enter" => ((k_dflt (refine' spec_of ?ho ?hcd ?hr ?hb ?hl ?c1 ?c2 ?c3 ?c4 ?_; k_extra "my e0"))))
  (k_with "my enterR" => ((k_dflt (refine' specR_of ?ho ?hcd ?hr ?hb ?hl ?c1 ?c2 ?c3 ?c4 ?_; k_extra "my e0"))))
  (k_with "my rst" => (first | exact Rst.nil | exact Rst.all (fun _ _ => List.not_mem_nil) | exact Rst.all hown9 | (refine' Rst.drop ?ra ?rb; (case ra => k_extra "my in"); (case rb => k_extra "my rst")) | (refine' Rst.keep ?ra ?rb; (case ra => k_extra "my notin"); (case rb => k_extra "my rst"))))
  (k_with "my c1" => (((case a1 | a2 | a3 => exact rfl); (case a4 | a5 => exact Nat.le_of_ble_eq_true rfl))))
  (k_with "my c2" => (((case a7 => first | exact rfl | assumption); (case B | F | X | N | T => k_asm))))
  (k_with "my c4" => ((k_extra "my c1"; (case a6 => exact rfl); k_extra "my c2")))
  (k_with "my c3" => (((case hn => k_extra "my mem"); (case has => exact rfl); (case hr => k_extra "my rst"))))
  (k_with "eval Constant int" => ((refine wpAny_Constant_int ?_; (try dsimp only))))
  (k_with "evalPairs" => ((first | (refine pairTrees_cons_walk ?_; (try dsimp only)) | (refine pairTrees_nil_walk ?_; (try dsimp only)))))
  (k_with "my mem" => (first | exact List.forall_mem_nil _ | (refine' List.forall_mem_cons.mpr ⟨?ma, ?mb⟩; (case ma => k_mem); (case mb => k_extra "my mem"))))
  (k_with "my notin" => (first | exact List.not_mem_nil | (refine' notin_cons ?na ?nb; (case na => ((try dsimp only); first | k_extra "my ne" | omega)); (case nb => k_extra "my notin"))))
  (k_with "my in" => (first | exact List.Mem.head _ | (refine' List.Mem.tail _ ?_; k_extra "my in")))
  (k_with "my post" => (((try k_sweep); (try dsimp only); (try k_fold))))
  (k_with "my pre" => ((first | omega | (simp only [bne_iff_ne, ne_eq, beq_iff_eq, decide_eq_true_eq, Bool.not_eq_true'] ; omega))))
  (k_with "ite" => (first | (k_openite; goal_has Mine.codeAt; first | (refine ite_pos (by k_extra "my pre") ?_; walk_say "MINE") | (refine ite_neg (by k_extra "my pre") ?_; walk_say "MINE")) | (k_closed; first | (refine ite_pos (by decide) ?_; walk_say "MINEC") | (refine ite_neg (by decide) ?_; walk_say "MINEC"))))
  (k_with "WhlIf" => ((goal_has Mine.codeAt; first | (refine WhlIf.yes (by (simp only [bne_iff_ne, ne_eq, beq_iff_eq, decide_eq_true_eq, Bool.not_eq_true', Bool.and_eq_true] ; omega)) ?_; walk_say "MINE") | (refine WhlIf.no (by (simp only [bne_eq_false_iff_eq, beq_eq_false_iff_ne, ne_eq, decide_eq_false_iff_not, Bool.and_eq_false_iff] ; omega)) ?_; walk_say "MINE"))))
  (k_with "call ref" => ((k_here; first | ((with_reducible show wpAny _ _ (call (Value.ref 316) _) _ _ _); k_dflt ((show wpAny _ _ (call (Value.ref 316) [Value.ref _, Value.int _ _]) _ _ _); refine' spec_use' (word_spec ?h0 ?h1 ?h2 ?h3 ?h4 ?h5 ?h6 ?h7) ?a1 ?a2 ?a3 ?a4 ?a5 ?a6 ?a7 ?B ?F ?X ?N ?T ?hn ?has ?hr ?_; k_extra "my c4"; k_extra "my c3"; (case h0 => assumption); (case h1 | h2 => omega); (case h3 | h4 | h5 | h6 | h7 => assumption); k_whole; intro v9 nn9 h9 tk9 hP9 F9 N9 fr9; (obtain ⟨T9, t9, t09, t39, k9, hT9, rfl, rfl⟩ := hP9); (simp only [tokL, List.cons_append, List.nil_append] at N9); k_extra "my post")) | ((with_reducible show wpAny _ _ (call (Value.ref 281) _) _ _ _); k_dflt ((show wpAny _ _ (call (Value.ref 281) [Value.ref _]) _ _ _); refine' spec_ro (skip_blanks_spec ?h0 ?h1 ?h2 ?h3) ?a1 ?a2 ?a3 ?a4 ?a5 ?a6 ?a7 ?B ?F ?X ?N ?T ?hn ?_; k_extra "my c4"; (case hn => k_extra "my mem"); (case h0 => assumption); (case h1 => omega); (case h2 | h3 => assumption); k_whole; intro v9 h9 tk9 hP9 F9 N9; (subst hP9); k_extra "my post")) | ((with_reducible show wpAny _ _ (call (Value.ref 267) _) _ _ _); k_dflt ((show wpAny _ _ (call (Value.ref 267) [Value.ref _, Value.int _ _]) _ _ _); refine' spec_ro (code1_spec ?h0 ?h1 ?h3 ?h2) ?a1 ?a2 ?a3 ?a4 ?a5 ?a6 ?a7 ?B ?F ?X ?N ?T ?hn ?_; k_extra "my c4"; (case hn => k_extra "my mem"); (case h0 => assumption); (case h1 | h3 => omega); (case h2 => assumption); k_whole; intro v9 h9 tk9 hP9 F9 N9; (obtain ⟨t9, rfl⟩ := hP9); k_extra "my post")) | ((with_reducible show wpAny _ _ (call (Value.ref 267) _) _ _ _); k_dflt ((show wpAny _ _ (call (Value.ref 267) [Value.ref _]) _ _ _); refine' spec_ro (code0_spec ?h0 ?h1 ?h2) ?a1 ?a2 ?a3 ?a4 ?a5 ?a6 ?a7 ?B ?F ?X ?N ?T ?hn ?_; k_extra "my c4"; (case hn => k_extra "my mem"); (case h0 => assumption); (case h1 => omega); (case h2 => assumption); k_whole; intro v9 h9 tk9 hP9 F9 N9; (obtain ⟨t9, rfl⟩ := hP9); k_extra "my post")))))
  trivial
abbrev TokPost (w : World) (x dx Cd : Addr) (vs : List Value) (nC : Nat) (cs : List Int) (t1 t2 : Tok) (val p : Int) (v : Value) (nn : Ledger) : Prop :=
  ∃ T t t0 ts t3' k, (x < T ∧ dx < T ∧ Cd < T) ∧ v = .ref T ∧ nn = (T, intT val t t0 (.int p ts) k) :: tokL w x dx Cd vs nC (cs.length : Int) t1 t2 t3'
set_option maxRecDepth 100000 in
set_option maxHeartbeats 1500000 in
theorem tokenW_spec {prog : Program} {w : World} {x dx Cd : Addr} {vs : List Value} {cs : List Int} {nC : Nat} {p c : Int} {r l : List Int} {t1 t2 t3 : Tok} (hi : IntsAre vs cs) (hp0 : 0 ≤ p) (hp2 : p ≤ (cs.length : Int)) (hfit : cs.length ≤ 100000)
    (n1 : @Ne Nat x dx) (n2 : @Ne Nat x Cd) (n3 : @Ne Nat dx Cd) (hq0 : 32 < codeAt cs p ∧ codeAt cs p ≠ 160 ∧ codeAt cs p ≠ 59 ∧ (codeAt cs p = 35 → codeAt cs (p + 1) ≠ 33)) (hqc : codeAt cs p = 43 ∨ codeAt cs p = 45 ∨ 48 ≤ codeAt cs p ∧ codeAt cs p ≤ 57) (W : DecOk cs p c r l) :
    Spec prog w (hd.heap_39 w.params) 610 6100 288 [.ref x] (tokL w x dx Cd vs nC p t1 t2 t3) (TokPost w x dx Cd vs nC cs t1 t2 (valS 10 c r) p) := by
  k_extra "my enter"
  intro pr loose mean mg mb outer A₀ base g L' h₁ s tk Q B F X N T lt ret
  k_lt lt
  k_steps
  all_goals (first | (exfalso; omega) | exact ret _ _ _ _ _ _ rfl ⟨_, _, _, _, _, _, by assumption, rfl, rfl⟩ (by assumption) (cb_drop (by assumption) (by k_extra "my mem")))
theorem word_23 : True := by
  (k_with "call ref" => ((k_here; first | ((with_reducible show wpAny _ _ (call (Value.ref 323) _) _ _ _); k_dflt ((show wpAny _ _ (call (Value.ref 323) [Value.ref _, Value.int _ _]) _ _ _); refine' spec_use' (dispatchedR_w ?h0 ?h1 ?h2 ?h3 ?h4 ?h5 ?h6 ?hq ?hk ?h7) ?a1 ?a2 ?a3 ?a4 ?a5 ?a6 ?a7 ?B ?F ?X ?N ?T ?hn ?has ?hr ?_; k_extra "my c4"; k_extra "my c3"; (case h0 => assumption); (case h1 | h2 => omega); (case h3 | h4 | h5 | h6 | hq | hk | h7 => assumption); k_whole; intro v9 nn9 h9 tk9 hP9 F9 N9 fr9; (obtain ⟨T9, t9, t09, t39, k9, hT9, rfl, rfl⟩ := hP9); (simp only [tokL, List.cons_append, List.nil_append] at N9); k_extra "my post")) | ((with_reducible show wpAny _ _ (call (Value.ref 281) _) _ _ _); k_dflt ((show wpAny _ _ (call (Value.ref 281) [Value.ref _]) _ _ _); refine' spec_ro (skip_blanks_spec ?h0 ?h1 ?h2 ?h3) ?a1 ?a2 ?a3 ?a4 ?a5 ?a6 ?a7 ?B ?F ?X ?N ?T ?hn ?_; k_extra "my c4"; (case hn => k_extra "my mem"); (case h0 => assumption); (case h1 => omega); (case h2 | h3 => assumption); k_whole; intro v9 h9 tk9 hP9 F9 N9; (subst hP9); k_extra "my post")) | ((with_reducible show wpAny _ _ (call (Value.ref 267) _) _ _ _); k_dflt ((show wpAny _ _ (call (Value.ref 267) [Value.ref _, Value.int _ _]) _ _ _); refine' spec_ro (code1_spec ?h0 ?h1 ?h3 ?h2) ?a1 ?a2 ?a3 ?a4 ?a5 ?a6 ?a7 ?B ?F ?X ?N ?T ?hn ?_; k_extra "my c4"; (case hn => k_extra "my mem"); (case h0 => assumption); (case h1 | h3 => omega); (case h2 => assumption); k_whole; intro v9 h9 tk9 hP9 F9 N9; (obtain ⟨t9, rfl⟩ := hP9); (try simp only [hq0, hq1, hq2]); k_extra "my post")) | ((with_reducible show wpAny _ _ (call (Value.ref 267) _) _ _ _); k_dflt ((show wpAny _ _ (call (Value.ref 267) [Value.ref _]) _ _ _); refine' spec_ro (code0_spec ?h0 ?h1 ?h2) ?a1 ?a2 ?a3 ?a4 ?a5 ?a6 ?a7 ?B ?F ?X ?N ?T ?hn ?_; k_extra "my c4"; (case hn => k_extra "my mem"); (case h0 => assumption); (case h1 => omega); (case h2 => assumption); k_whole; intro v9 h9 tk9 hP9 F9 N9; (obtain ⟨t9, rfl⟩ := hP9); (try simp only [hq0, hq1, hq2]); k_extra "my post")))))
  trivial
set_option maxRecDepth 100000 in
set_option maxHeartbeats 1500000 in
theorem tokenR_spec {prog : Program} {w : World} {x dx Cd : Addr} {vs : List Value} {cs : List Int} {nC : Nat} {p c k radix : Int} {r : List Int} {t1 t2 t3 : Tok} (hi : IntsAre vs cs) (hp0 : 0 ≤ p) (hp2 : p + 2 ≤ (cs.length : Int)) (hfit : cs.length ≤ 100000)
    (n1 : @Ne Nat x dx) (n2 : @Ne Nat x Cd) (n3 : @Ne Nat dx Cd) (hq0 : codeAt cs p = 35) (hq1 : codeAt cs (p + 1) = k) (hk : k = 98 ∧ radix = 2 ∨ k = 111 ∧ radix = 8 ∨ k = 120 ∧ radix = 16) (W : WordOk cs (p + 2) radix c r) :
    Spec prog w (hd.heap_39 w.params) 610 6100 288 [.ref x] (tokL w x dx Cd vs nC p t1 t2 t3) (TokPost w x dx Cd vs nC cs t1 t2 (valS radix c r) p) := by
  k_extra "my enter"
  intro pr loose mean mg mb outer A₀ base g L' h₁ s tk Q B F X N T lt ret
  k_lt lt
  have hq2 := hq0
  have hqb : 32 < codeAt cs p ∧ codeAt cs p ≠ 160 ∧ codeAt cs p ≠ 59 ∧ (codeAt cs p = 35 → codeAt cs (p + 1) ≠ 33) := by omega
  k_steps
  all_goals (first | (exfalso; omega) | exact ret _ _ _ _ _ _ rfl ⟨_, _, _, _, _, _, by assumption, rfl, rfl⟩ (by assumption) (cb_drop (by assumption) (by k_extra "my mem")))
theorem word_24 : True := by
  (k_with "call ref" => ((k_here; first | ((with_reducible show wpAny _ _ (call (Value.ref 323) _) _ _ _); k_dflt ((show wpAny _ _ (call (Value.ref 323) [Value.ref _, Value.int _ _]) _ _ _); refine' spec_use' (dispatchedN_w ?h0 ?h1 ?h2 ?h3 ?h4 ?h5 ?h6 ?hq0 ?hq1 ?hq2 ?h7) ?a1 ?a2 ?a3 ?a4 ?a5 ?a6 ?a7 ?B ?F ?X ?N ?T ?hn ?has ?hr ?_; k_extra "my c4"; k_extra "my c3"; (case h0 => assumption); (case h1 | h2 => omega); (case h3 | h4 | h5 | h6 | hq0 | hq1 | hq2 | h7 => assumption); k_whole; intro v9 nn9 h9 tk9 hP9 F9 N9 fr9; (obtain ⟨T9, t9, t09, t39, k9, hT9, rfl, rfl⟩ := hP9); (simp only [tokL, List.cons_append, List.nil_append] at N9); k_extra "my post")))))
  trivial
set_option maxRecDepth 100000 in
set_option maxHeartbeats 1500000 in
theorem tokenN_spec {prog : Program} {w : World} {x dx Cd : Addr} {vs : List Value} {cs : List Int} {nC : Nat} {p c : Int} {r : List Int} {t1 t2 t3 : Tok} (hi : IntsAre vs cs) (hp0 : 0 ≤ p) (hp2 : p + 1 + 1 + 1 + 1 ≤ (cs.length : Int)) (hfit : cs.length ≤ 100000)
    (n1 : @Ne Nat x dx) (n2 : @Ne Nat x Cd) (n3 : @Ne Nat dx Cd) (hq0 : codeAt cs p = 35) (hq1 : codeAt cs (p + 1) = 51) (hq2 : codeAt cs (p + 1 + 1) = 54) (hq3 : codeAt cs (p + 1 + 1 + 1) = 114) (W : WordOk cs (p + 1 + 1 + 1 + 1) 36 c r) :
    Spec prog w (hd.heap_39 w.params) 610 6100 288 [.ref x] (tokL w x dx Cd vs nC p t1 t2 t3) (TokPost w x dx Cd vs nC cs t1 t2 (valS 36 c r) p) := by
  k_extra "my enter"
  intro pr loose mean mg mb outer A₀ base g L' h₁ s tk Q B F X N T lt ret
  k_lt lt
  have hqb : 32 < codeAt cs p ∧ codeAt cs p ≠ 160 ∧ codeAt cs p ≠ 59 ∧ (codeAt cs p = 35 → codeAt cs (p + 1) ≠ 33) := by omega
  k_steps
  all_goals (first | (exfalso; omega) | exact ret _ _ _ _ _ _ rfl ⟨_, _, _, _, _, _, by assumption, rfl, rfl⟩ (by assumption) (cb_drop (by assumption) (by k_extra "my mem")))
end PartMJ
section PartMS
abbrev lsBm : List Value := [.type "Exception", .type "BaseException", .type "object"]
abbrev lsObj : Obj := excClassObj (Str.ofString "LispSignal") (Str.ofString "LispSignal") 179 178 [.type "Exception"] lsBm true [] [] false none none (some (.ref 163)) none (some (.str (Str.ofString "LispSignal") 495)) (some (.str (Str.ofString "LispSignal") 503)) (some (.bool true)) "Exception.__new__"
theorem ls_at (w : World) : (hd.heap_39 w.params).lookup 179 = some lsObj := by k_is
theorem ls_ok (w : World) : nsOkIn (hd.heap_39 w.params) 178 = true := by kernel_rfl
theorem ls_init (w : World) : nsIn (hd.heap_39 w.params) 178 (Str.ofString "__init__") = some (some (.ref 176)) := by k_is
theorem ls_sa (w : World) : nsIn (hd.heap_39 w.params) 178 (Str.ofString "__setattr__") = some none := by k_is
theorem ls_ga (w : World) : nsIn (hd.heap_39 w.params) 178 (Str.ofString "__getattribute__") = some none := by k_is
theorem ls_gaa (w : World) : nsIn (hd.heap_39 w.params) 178 (Str.ofString "__getattr__") = some none := by k_is
theorem ls_sym (w : World) : nsIn (hd.heap_39 w.params) 178 (Str.ofString "symbol") = some none := by k_is
theorem ls_data (w : World) : nsIn (hd.heap_39 w.params) 178 (Str.ofString "data") = some none := by k_is
theorem ex_sym : typeLookup (.type "Exception") (Str.ofString "symbol") = pure none := by rw [typeLookup_type, builtinLookup_eq_fast]; kernel_rfl
theorem ex_data : typeLookup (.type "Exception") (Str.ofString "data") = pure none := by rw [typeLookup_type, builtinLookup_eq_fast]; kernel_rfl
theorem ns_some_of {K : Frag} {h : Heap} {N : Addr} {mg : Str → Option Value} {n : Str} {v : Value} (X : K.In h) (G : h.Ns N mg) (e : nsIn K N n = some (some v)) : mg n = some v := by
  obtain ⟨o, es, ep, ho, hd, _, hf⟩ := G
  unfold nsIn at e
  split at e
  · rename_i q
    have := X _ _ q
    rw [ho] at this
    cases this
    cases hd
    split at e
    · rename_i he
      cases e
      rw [← hf]
      unfold nsFind findBy
      rw [← Array.find?_toList, he]
      rfl
    · split at e <;> cases e
  · cases e
section
variable {w : World} {h : Heap}
theorem ls_ns (X : (hd.heap_39 w.params).In h) : h.Ns 178 (h.nsMap 178) := .of_isNs (isNs_of_in X (ls_ok w))
theorem ls_cls (X : (hd.heap_39 w.params).In h) : h.get? 179 = some lsObj := X _ _ (ls_at w)
end
abbrev excO (t : Addr) (dx : Option Addr) : Obj := { cls := .ref 179, dict := dx, data := .fields #[.ref t, .none, .none, .none, .bool false, .none] }
section
variable {prog : Program} {w : World} {A : Around} {E : Value → Shared → Prop} {s : Shared} {env : Env}
theorem raise_mine {x : Str} {np cpos pos : Pos} {args : List Expr} {Q : Flow → Shared → Prop} (hh : A.handled = none)
    (h : wpAny (model prog w) A (eval (.Call (.Name x np) args [] cpos) env) (fun v s₁ => ∃ e t d, v = .ref e ∧ s₁.heap.get? 179 = some lsObj ∧ s₁.heap.get? e = some (excO t (some d)) ∧ E (.ref e) s₁) E s) :
    wpAny (model prog w) A (exec (.Raise (some (.Call (.Name x np) args [] cpos)) none pos) env) Q E s := by
  rw [arm_exec_Raise]
  refine wpAny_bind (wpAny_standAt ?_)
  have key : ∀ (y : Sem Value), wpAny (model prog w) A y (fun v s₁ => ∃ e t d, v = .ref e ∧ s₁.heap.get? 179 = some lsObj ∧ s₁.heap.get? e = some (excO t (some d)) ∧ E (.ref e) s₁) E s → wpAny (model prog w) A (raiseStmt env (some y) none) Q E s := by
    intro y hy
    have hcB : (Value.ref 179 :: lsBm).contains (.type "BaseException") = true := by decide
    unfold raiseStmt
    refine wpAny_bind (wpAny_mono hy (fun v s₁ h₁ => ?_) fun _ _ x => x)
    obtain ⟨e, t, d, rfl, hC, he, hE⟩ := h₁
    obtain ⟨hp, g, d, tk, os⟩ := s₁
    repeat (first | with_reducible refine wpAny_loadPart_at he ?_ | with_reducible refine wpAny_loadPart_at hC ?_ | (with_reducible refine wpAny_isSubtype_exc hC ?_; rw [hcB]) | wp_step)
    exact wpAny_raiseNew_none hh hE
  simp only [evalOpt, Option.map]
  exact key _ (wpAny_bind (wpAny_mono h (fun v s₁ h₁ => wpAny_bind (wpAny_standAt (wpAny_pure h₁))) fun _ _ x => x))
end
section
open Builtin Builtin.ObjectAttr
variable {prog : Program} {w : World} {A : Around} {E : Value → Shared → Prop} {h : Heap} {g : Array GenState} {d : Drawn} {t : Nat} {os : OsState} {x : Addr} {name : Str} {v : Value} {mN : Str → Option Value}
theorem first_entry {u : Addr} {tk : Tok} {Q : Fin → Shared → Prop} (hC : h.get? 179 = some lsObj) (hn : h.Ns 178 mN) (hna : mN name = none) (hB : typeLookup (.type "Exception") name = pure none) (hx : h.get? x = some (excO u none))
    (hq : ∀ h' tk', h'.get? x = some (excO u (some h.objs.size)) → h'.Ns1 h.objs.size (fun y => if y = name then some v else none) → (∀ b o, b ≠ x → h.get? b = some o → h'.get? b = some o) → Q (.done (.ret .none)) ⟨h', g, d, tk', os⟩) :
    wpAny (model prog w) A (Builtin.«object.__setattr__» ⟨[.ref x, .str name tk, v], []⟩) Q E ⟨h, g, d, t, os⟩ := by
  have SF := PySem.F.store_Exception
  have hpass := SF.passes (.ref x)
  obtain ⟨o, ho⟩ : ∃ o, o = excO u none := ⟨_, rfl⟩
  have hc : o.cls = .ref 179 := by rw [ho]
  have hdn : o.dict = none := by rw [ho]
  have hnc : ∀ c, o.data ≠ .cls c := by rw [ho]; intro c q; cases q
  have hE : { cls := o.cls, dict := some h.objs.size, data := o.data, slots := o.slots } = excO u (some h.objs.size) := by rw [ho]
  rw [← ho] at hx
  unfold Builtin.«object.__setattr__»
  repeat (first | rw [refuse_eq] | (rw [refuseLoop_ref, hpass]) | (with_reducible refine wpAny_loadPart_at hx ?_; rw [hc]) | with_reducible refine wpAny_mroOf_exc hC ?_ | (with_reducible refine wpAny_typeLookup_exc hC hn SF.mro hB ?_; rw [hna]) | wp_step)
  rw [hdn, if_neg (by simp [typeHasDict])]
  have hx₁ : (h.push { cls := .type "dict", data := .dict #[] }).get? x = some o := Heap.get?_push_of_some _ hx
  have hxs : x ≠ h.objs.size := Nat.ne_of_lt (Heap.lt_size hx)
  split
  · rename_i q; cases q
  split
  · rename_i q; exact absurd q (hnc _)
  refine wpAny_bind (wpAny_alloc' ?_)
  refine wpAny_bind (wpAny_update' hx₁ ?_)
  refine wpAny_pure ?_
  have hgd : ((h.push { cls := .type "dict", data := .dict #[] }).update x fun o => { cls := o.cls, dict := some h.objs.size, data := o.data, slots := o.slots }).get? h.objs.size = some { cls := .type "dict", data := .dict #[] } :=
    (Heap.get?_update_ne _ _ _ _ hxs.symm).trans (Heap.get?_push_at rfl rfl)
  have hnd : ((h.push { cls := .type "dict", data := .dict #[] }).update x fun o => { cls := o.cls, dict := some h.objs.size, data := o.data, slots := o.slots }).Ns h.objs.size (fun _ => none) :=
    ⟨_, #[], _, hgd, rfl, fun e he => absurd he (by simp), fun _ => rfl⟩
  show wpAny _ _ (storeInDict h.objs.size (.str name tk) name v) _ _ _
  unfold storeInDict newKeyGuard
  refine wpAny_bind (wpAny_pure (wpAny_bind (wpAny_nsSet1 (Heap.Ns1.of_empty hnd) fun h' hn' hs => ?_)))
  obtain ⟨oD, esD, epD, hoD, hdD, hcD⟩ := hn'.count (Within.cons name v Within.nil)
  refine wpAny_bind (wpAny_lookBehind hoD (by rw [hdD]; exact pastItsLine_dict (Nat.le_trans hcD (by rw [List.length_cons, List.length_nil, sizeLine_eq]; omega))) ?_)
  wp_walk
  refine hq h' _ ?_ hn' fun b ob hbx hb => (hs.2 b (Nat.ne_of_lt (Heap.lt_size hb))).trans ((Heap.get?_update_ne _ _ _ _ hbx).trans (Heap.get?_push_of_some _ hb))
  refine (hs.2 x hxs).trans ?_
  rw [← hE]
  exact Heap.get?_update_self _ hx₁ (by rw [ho]; rfl)
theorem any_store {nm q : Str} {C N : Addr} {bs bm : List Value} {sn : List Str} {sub : List Value} {ab : Bool} {col : Option Bool} {dd : Option Addr} {k0 k1 k2 k3 k5 : Option Value} {B newId sa owner : String} {o : Obj} {Q : Unit → Shared → Prop} (SF : StoreFacts B bm sa owner)
    (hC : h.get? C = some (excClassObj nm q C N bs bm true sn sub ab col dd k0 k1 k2 k3 k5 newId)) (hn : h.Ns N mN) (hns : mN "__setattr__" = none) (hx : h.get? x = some o) (hc : o.cls = .ref C)
    (hq : ∀ A' tk Q' E' t', (∀ h' tk', Q () ⟨h', g, d, tk', os⟩ → Q' (.done (.ret .none)) ⟨h', g, d, tk', os⟩) → wpAny (model prog w) A' (Builtin.«object.__setattr__» ⟨[.ref x, .str name tk, v], []⟩) Q' E' ⟨h, g, d, t', os⟩) :
    wpAny (model prog w) A (setAttr (.ref x) name v) Q E ⟨h, g, d, t, os⟩ := by
  have f3 := SF.slot.bind (.ref x)
  unfold setAttr callSpecial? specialOf
  repeat (any_goals (first | assumption | (with_reducible refine wpAny_loadPart_at hx ?_; rw [hc]) | (with_reducible refine wpAny_typeLookup_exc hC hn SF.mro SF.slot.lookup ?_; rw [hns]) | wp_step))
  refine codeAny_call_builtin SF.slot.plain SF.entry (wpAny_check_sa SF hC hx hc ?_)
  refine hq _ _ _ _ _ (fun h' tk' hQ => ?_)
  repeat (any_goals (first | assumption | wp_step))
theorem first_store {u : Addr} {Q : Unit → Shared → Prop} (hC : h.get? 179 = some lsObj) (hn : h.Ns 178 mN) (hns : mN "__setattr__" = none) (hna : mN name = none) (hB : typeLookup (.type "Exception") name = pure none) (hx : h.get? x = some (excO u none))
    (hq : ∀ h' tk', h'.get? x = some (excO u (some h.objs.size)) → h'.Ns1 h.objs.size (fun y => if y = name then some v else none) → (∀ b o, b ≠ x → h.get? b = some o → h'.get? b = some o) → Q () ⟨h', g, d, tk', os⟩) :
    wpAny (model prog w) A (setAttr (.ref x) name v) Q E ⟨h, g, d, t, os⟩ :=
  any_store PySem.F.store_Exception hC hn hns hx rfl fun _ _ _ _ _ hR => first_entry hC hn hna hB hx fun h' tk' h1 h2 h3 => hR h' tk' (hq h' tk' h1 h2 h3)
end
section
variable {prog : Program} {w : World} {A : Around} {E : Value → Shared → Prop} {s : Shared} {g : Heap} {L e t : Addr} {m : Str → Option Value} {name : Str} {v : Value}
theorem exc_ne {K : Frag} {o : Obj} {b : Addr} (X : K.In g) (h : g.get? e = none) (k : K.lookup b = some o) : e ≠ b := fun q => by
  have := X _ _ k
  rw [← q, h] at this; cases this
theorem fr_kept {h h' : Heap} (F : Fr g L h m) (hk : ∀ b o, g.get? b = some o ∨ b = L → h.get? b = some o → h'.get? b = some o) : Fr g L h' m := by
  obtain ⟨o, es, ep, e1, r⟩ := F.ns
  exact ⟨⟨o, es, ep, hk _ _ (.inr rfl) e1, r⟩, fun b o q => hk b o (.inl q) (F.keep b o q), F.above⟩
theorem set1 {Q : Unit → Shared → Prop} (F : Fr g L s.heap m) (X : (hd.heap_39 w.params).In g) (N : News g L s.heap [(e, excO t none)]) (hna : nsIn (hd.heap_39 w.params) 178 name = some none) (hB : typeLookup (.type "Exception") name = pure none)
    (hq : ∀ h' tk' dA od, Fr g L h' m → News g L h' [(e, excO t (some dA)), (dA, od)] → NsO od (fun y => if y = name then some v else none) → dA ≠ e → dA ≠ L → Q () { s with heap := h', toks := tk' }) :
    wpAny (model prog w) A (setAttr (.ref e) name v) Q E s := by
  have X' := X.keeps F.keep
  have he : s.heap.get? e = _ := (N _ (.head _)).1
  have heL : e ≠ L := (N _ (.head _)).2.1
  have heg : g.get? e = none := (N _ (.head _)).2.2
  dsimp only at he
  refine first_store (ls_cls X') (ls_ns X') (nsMap_none_of_in X' (ls_ok w) (ls_sa w)) (nsMap_none_of_in X' (ls_ok w) hna) hB he fun h' tk' h1 h2 h3 => ?_
  obtain ⟨od, es, ep, hd1, hd2⟩ := h2
  have hk : ∀ b o, g.get? b = some o ∨ b = L → s.heap.get? b = some o → h'.get? b = some o := fun b o c q => h3 b o (fun z => by
    rcases c with c | c
    · rw [z, heg] at c; cases c
    · exact heL (z.symm.trans c)) q
  obtain ⟨oL, _, _, hL, _⟩ := F.ns
  have hdL : s.heap.objs.size ≠ L := Nat.ne_of_gt (Heap.lt_size hL)
  refine hq h' tk' _ od (fr_kept F hk) (List.forall_mem_cons.mpr ⟨⟨h1, heL, heg⟩, List.forall_mem_cons.mpr ⟨⟨hd1, hdL, ?_⟩, List.forall_mem_nil _⟩⟩) ⟨es, ep, hd2⟩ (Nat.ne_of_gt (Heap.lt_size he)) hdL
  cases q : g.get? s.heap.objs.size with
  | none => rfl
  | some o => exact absurd (Heap.lt_size (F.keep _ _ q)) (Nat.lt_irrefl _)
theorem set2 {Q : Unit → Shared → Prop} {dA : Addr} {od : Obj} {n0 : Str} {v0 : Value} (F : Fr g L s.heap m) (X : (hd.heap_39 w.params).In g) (N : News g L s.heap [(e, excO t (some dA)), (dA, od)]) (hO : NsO od (fun y => if y = n0 then some v0 else none)) (hde : dA ≠ e)
    (hna : nsIn (hd.heap_39 w.params) 178 name = some none) (hB : typeLookup (.type "Exception") name = pure none)
    (hq : ∀ h' tk' od', Fr g L h' m → News g L h' [(e, excO t (some dA)), (dA, od')] → NsO od' (fun y => if y = name then some v else if y = n0 then some v0 else none) → Q () { s with heap := h', toks := tk' }) :
    wpAny (model prog w) A (setAttr (.ref e) name v) Q E s := by
  have X' := X.keeps F.keep
  have he : s.heap.get? e = _ := (N _ (.head _)).1
  have heL : e ≠ L := (N _ (.head _)).2.1
  have heg : g.get? e = none := (N _ (.head _)).2.2
  dsimp only at he
  have hd1 : s.heap.get? dA = some od := (N _ (.tail _ (.head _))).1
  have hdL : dA ≠ L := (N _ (.tail _ (.head _))).2.1
  have hdg : g.get? dA = none := (N _ (.tail _ (.head _))).2.2
  refine store_attr PySem.F.store_Exception (ls_cls X') (ls_ns X') (nsMap_none_of_in X' (ls_ok w) (ls_sa w)) (nsMap_none_of_in X' (ls_ok w) hna) hB (exc_ne X heg (ls_at w)) ⟨_, he, rfl, (by intro c q; cases q), .inr ⟨dA, rfl, hde, hO.ns1 hd1⟩⟩ (fun h' tk' I hk hs => ?_) (Within.cons n0 v0 Within.nil)
  obtain ⟨o1, ho1, hc, hdt, hsl, hdi⟩ := hs _ he
  have ho : o1 = excO t (some dA) := by
    obtain ⟨a, b, c, d⟩ := o1
    have := hdi dA rfl
    dsimp only at hc hdt hsl this
    rw [hc, hdt, hsl, this]
  rw [ho] at ho1
  obtain ⟨o2, ho2, _, _, hI⟩ := I
  rw [ho1] at ho2
  cases ho2
  rcases hI with ⟨z, _⟩ | ⟨d2, z, _, od2, es, ep, hd2, r⟩
  · cases z
  cases z
  have hk' : ∀ b o, g.get? b = some o ∨ b = L → s.heap.get? b = some o → h'.get? b = some o := fun b o c q => hk b o (fun z => by
    rcases c with c | c
    · rw [z, heg] at c; cases c
    · exact heL (z.symm.trans c)) (fun o₀ dx h1 h2 z => by
    rw [he] at h1; cases h1; cases h2
    rcases c with c | c
    · rw [z, hdg] at c; cases c
    · exact hdL (z.symm.trans c)) q
  exact hq h' tk' od2 (fr_kept F hk') (List.forall_mem_cons.mpr ⟨⟨ho1, heL, heg⟩, List.forall_mem_cons.mpr ⟨⟨hd2, hdL, hdg⟩, List.forall_mem_nil _⟩⟩) ⟨es, ep, r⟩
end
theorem word_25 : True := by
  k_with_none
  (k_with "my e0" => (((case ho | hcd => k_is); (case hr => decide); (case hb => first | exact fun s X => BindsTo.of_eq rfl | exact fun s X => binds_K X rfl (by k_is) rfl rfl rfl); (case hl => exact locs rfl); (case c1 | c2 | c3 => exact rfl); (case c4 => decide))))
  (k_with "my enter" => ((k_dflt (refine' spec_of ?ho ?hcd ?hr ?hb ?hl ?c1 ?c2 ?c3 ?c4 ?_; k_extra "my e0"))))
  (k_with "my enterR" => ((k_dflt (refine' specR_of ?ho ?hcd ?hr ?hb ?hl ?c1 ?c2 ?c3 ?c4 ?_; k_extra "my e0"))))
  (k_with "my rst" => (first | exact Rst.nil | exact Rst.all (fun _ _ => List.not_mem_nil) | exact Rst.all hown9 | (refine' Rst.drop ?ra ?rb; (case ra => k_extra "my in"); (case rb => k_extra "my rst")) | (refine' Rst.keep ?ra ?rb; (case ra => k_extra "my notin"); (case rb => k_extra "my rst"))))
  (k_with "my c1" => (((case a1 | a2 | a3 => exact rfl); (case a4 | a5 => exact Nat.le_of_ble_eq_true rfl))))
  (k_with "my c2" => (((case a7 => first | exact rfl | assumption); (case B | F | X | N | T => k_asm))))
  (k_with "my c4" => ((k_extra "my c1"; (case a6 => exact rfl); k_extra "my c2")))
  (k_with "my c3" => (((case hn => k_extra "my mem"); (case has => exact rfl); (case hr => k_extra "my rst"))))
  (k_with "eval Constant int" => ((refine wpAny_Constant_int ?_; (try dsimp only))))
  (k_with "evalPairs" => ((first | (refine pairTrees_cons_walk ?_; (try dsimp only)) | (refine pairTrees_nil_walk ?_; (try dsimp only)))))
  (k_with "my mem" => (first | exact List.forall_mem_nil _ | (refine' List.forall_mem_cons.mpr ⟨?ma, ?mb⟩; (case ma => k_mem); (case mb => k_extra "my mem"))))
  (k_with "my notin" => (first | exact List.not_mem_nil | (refine' notin_cons ?na ?nb; (case na => ((try dsimp only); first | k_extra "my ne" | omega)); (case nb => k_extra "my notin"))))
  (k_with "my in" => (first | exact List.Mem.head _ | (refine' List.Mem.tail _ ?_; k_extra "my in")))
  (k_with "my post" => (((try k_sweep); (try dsimp only); (try k_fold))))
  trivial
set_option maxRecDepth 100000 in
set_option maxHeartbeats 1500000 in
theorem init_spec {prog : Program} {w : World} {e t : Addr} {t1 : Tok} {v2 : Value} :
    Spec prog w (hd.heap_39 w.params) 700 7000 176 [.ref e, .str (Str.ofString "overflow-error") t1, v2] [(e, excO t none)] (fun v nn => v = .none ∧ ∃ dA od, nn = [(e, excO t (some dA)), (dA, od)] ∧ SymD od ∧ dA ≠ e) := by
  k_extra "my enter"
  intro pr loose mean mg mb outer A₀ base g L' h₁ s tk Q B F X N T lt ret
  k_steps
  refine set1 F X N (ls_sym w) ex_sym fun h2 tk2 dA od F2 N2 hO hde hdL => ?_
  clear F N
  dsimp only
  k_steps
  refine set2 F2 X N2 hO hde (ls_data w) ex_data fun h3 tk3 od3 F3 N3 hO3 => ?_
  clear F2 N2
  dsimp only
  k_steps
  exact ret _ _ _ _ _ _ rfl ⟨rfl, dA, od3, rfl, ⟨_, t1, hO3, rfl⟩, hde⟩ (by assumption) (by assumption)
end PartMS
section PartMU
section
variable {prog : Program} {w : World}
theorem und {A : Around} {rest : List Value} (c : Code) (hc : c = .builtin "type.__call__" ⟨.ref 179 :: rest, []⟩) : (A.under c).handled = A.handled ∧ (A.under c).frames = A.frames ∧ (A.under c).guards = A.guards ∧ (A.under c).depth ≤ A.depth + 2 ∧ (A.under c).units ≤ A.units + 4 := by
  subst hc
  have h1 : (Code.builtin "type.__call__" ⟨.ref 179 :: rest, []⟩).envs = [] := rfl
  have h2 : (Code.builtin "type.__call__" ⟨.ref 179 :: rest, []⟩).guards = [] := rfl
  have h3 : (Code.builtin "type.__call__" ⟨.ref 179 :: rest, []⟩).weight ≤ 2 := Nat.le_of_ble_eq_true (by kernel_rfl)
  have h4 : (Code.builtin "type.__call__" ⟨.ref 179 :: rest, []⟩).cUnits ≤ 4 := Nat.le_of_ble_eq_true (by kernel_rfl)
  refine ⟨rfl, ?_, ?_, Nat.add_le_add_left h3 _, Nat.add_le_add_left h4 _⟩
  · unfold Around.under
    rw [h1]; rfl
  · unfold Around.under
    rw [h2]; rfl
theorem fn_of {K : Frag} {oc : Value} {od : Option Addr} {fd : FuncData} {osl : Array (Option Value)} (h : K.lookup 176 = some (⟨oc, od, .func fd, osl⟩ : Obj)) (hc : oc = .type "function") : ∃ o, K.lookup 176 = some o ∧ o.cls = .type "function" := ⟨_, h, hc⟩
theorem init_fn (w : World) : ∃ o, (hd.heap_39 w.params).lookup 176 = some o ∧ o.cls = .type "function" := by
  refine' fn_of ?h ?c
  case h => k_is
  case c => exact rfl
theorem call_ls {p : Program} {loose : List Str} {mean : ExcName → Option Value} {mg mb : Str → Option Value} {env : Env} {outer : List Env} {A₀ A : Around} {base h₀ : Heap} {L : Addr} {m : Str → Option Value} {s : Shared} {Q E : Value → Shared → Prop} {news : Ledger} {t1 : Tok} {v2 : Value}
    (hh : A.handled = none) (hA : A.frames = some (env :: outer)) (hg : A.guards = some []) (hd' : A.depth ≤ 690) (hu : A.units ≤ 6900) (hf : env.frame = some L) (hke : env.scope.kind = .function)
    (B : Below A₀ base outer h₀) (F : Fr h₀ L s.heap m) (X : (hd.heap_39 w.params).In h₀) (N : News h₀ L s.heap news) (T : Top p loose mean mg mb h₀)
    (ret : ∀ e t dA od h' tk', Fr h₀ L h' m → News h₀ L h' ((e, excO t (some dA)) :: (dA, od) :: news) → SymD od → dA ≠ e → Q (.ref e) { s with heap := h', toks := tk' }) :
    wpAny (model prog w) A (call (.ref 179) [.str (Str.ofString "overflow-error") t1, v2]) Q E s := by
  have X' := X.keeps F.keep
  obtain ⟨oI, hoI, hoc⟩ := init_fn w
  refine wpAny_call_exc_init PySem.F.excBase_Exception (ls_cls X') (ls_ns X') (ns_some_of X' (ls_ns X') (ls_init w)) (X' _ _ hoI) hoc (fun h' e hm => ?_) (by rw [sizeLine_eq]; simp)
  obtain ⟨t, ht, htn, _⟩ := hm.there
  obtain ⟨u1, u2, u3, u4, u5⟩ := und (A := A) (.builtin "type.__call__" ⟨.ref 179 :: [.str (Str.ofString "overflow-error") t1, v2], []⟩) rfl
  have he : s.heap.get? e = none := hm.new
  have fresh : ∀ b o, s.heap.get? b = some o → e ≠ b := fun b o q z => by rw [← z, he] at q; cases q
  obtain ⟨oL, _, _, hL, _⟩ := F.ns
  have F' : Fr h₀ L h' m := ⟨F.ns.keeps hm.keeps, fun b o q => hm.keeps b o (F.keep b o q), F.above⟩
  have heg : h₀.get? e = none := kts_none F.keep he
  have N' : News h₀ L h' ((e, excO t none) :: news) := List.forall_mem_cons.mpr ⟨⟨ht, fresh _ _ hL, heg⟩, fun q hq => ⟨hm.keeps _ _ (N q hq).1, (N q hq).2⟩⟩
  refine spec_use' (as := [e]) (rest := news) (init_spec (t := t)) (u1.trans hh) (u2.trans hA) (u3.trans hg) (by omega) (by omega) hf hke B F' X N' T ?_ rfl ?_ ?_
  · exact List.forall_mem_cons.mpr ⟨.head _, List.forall_mem_nil _⟩
  · exact Rst.drop (.head _) (Rst.all fun q hq z => fresh _ _ (N q hq).1 (List.mem_singleton.mp z).symm)
  · intro v nn' h2 tk2 hP F2 N2 _
    obtain ⟨rfl, dA, od, rfl, hS, hde⟩ := hP
    exact ⟨rfl, ret e t dA od h2 tk2 F2 N2 hS hde⟩
end
end PartMU
section PartMP
theorem word_26 : True := by
  k_with_none
  (k_with "my e0" => (((case ho | hcd => k_is); (case hr => decide); (case hb => first | exact fun s X => BindsTo.of_eq rfl | exact fun s X => binds_K X rfl (by k_is) rfl rfl rfl); (case hl => exact locs rfl); (case c1 | c2 | c3 => exact rfl); (case c4 => decide))))
  (k_with "my enter" => ((k_dflt (refine' spec_of ?ho ?hcd ?hr ?hb ?hl ?c1 ?c2 ?c3 ?c4 ?_; k_extra "my e0"))))
  (k_with "my enterR" => ((k_dflt (refine' specR_of ?ho ?hcd ?hr ?hb ?hl ?c1 ?c2 ?c3 ?c4 ?_; k_extra "my e0"))))
  (k_with "my rst" => (first | exact Rst.nil | exact Rst.all (fun _ _ => List.not_mem_nil) | exact Rst.all hown9 | (refine' Rst.drop ?ra ?rb; (case ra => k_extra "my in"); (case rb => k_extra "my rst")) | (refine' Rst.keep ?ra ?rb; (case ra => k_extra "my notin"); (case rb => k_extra "my rst"))))
  (k_with "my c1" => (((case a1 | a2 | a3 => exact rfl); (case a4 | a5 => exact Nat.le_of_ble_eq_true rfl))))
  (k_with "my c2" => (((case a7 => first | exact rfl | assumption); (case B | F | X | N | T => k_asm))))
  (k_with "my c4" => ((k_extra "my c1"; (case a6 => exact rfl); k_extra "my c2")))
  (k_with "my c3" => (((case hn => k_extra "my mem"); (case has => exact rfl); (case hr => k_extra "my rst"))))
  (k_with "eval Constant int" => ((refine wpAny_Constant_int ?_; (try dsimp only))))
  (k_with "evalPairs" => ((first | (refine pairTrees_cons_walk ?_; (try dsimp only)) | (refine pairTrees_nil_walk ?_; (try dsimp only)))))
  (k_with "my mem" => (first | exact List.forall_mem_nil _ | (refine' List.forall_mem_cons.mpr ⟨?ma, ?mb⟩; (case ma => k_mem); (case mb => k_extra "my mem"))))
  (k_with "my notin" => (first | exact List.not_mem_nil | (refine' notin_cons ?na ?nb; (case na => ((try dsimp only); first | k_extra "my ne" | omega)); (case nb => k_extra "my notin"))))
  (k_with "my in" => (first | exact List.Mem.head _ | (refine' List.Mem.tail _ ?_; k_extra "my in")))
  (k_with "my post" => (((try k_sweep); (try dsimp only); (try k_fold))))
  (k_with "call ref" => ((k_here; first | ((with_reducible show wpAny _ _ (call (Value.ref 198) _) _ _ _); k_dflt ((show wpAny _ _ (call (Value.ref 198) [Value.str (KStt.txt (_ :: _)) _]) _ _ _); refine' spec_ro (body_of_spec ?h0 ?h1) ?a1 ?a2 ?a3 ?a4 ?a5 ?a6 ?a7 ?B ?F ?X ?N ?T ?hn ?_; k_extra "my c4"; (case hn => k_extra "my mem"); (case h0 | h1 => assumption); k_whole; intro v9 h9 tk9 hP9 F9 N9; (obtain ⟨t9, rfl⟩ := hP9); k_extra "my post")))))
  (k_with "call builtin:str.lower" => ((k_dflt (refine' lower_call ?h1 ?h2 ?_; (case h1 => assumption); (case h2 => assumption)))))
  (k_with "pyIter str" => (( k_dflt (refine' value_loop (radix := radix) rfl ?F ?N ?hk ?_ ?_; (case F => k_asm); (case N => k_asm); (case hk => with_unfolding_all rfl)); ((intro a1 ta u h tk2 hp1 hp2 F N); (try k_sweep)); rotate_left; ((intro a1 ta pre post n t u h tk2 own hcs hp1 hp2 F N); (try k_sweep); (have hd1 := at_dig hdg hcs); (have hd2 := fig_pos hd1); (have hd3 := find_fig hd1); rw [← hd3] at hd2); all_goals (try k_fold))))
  (k_with "InvEndN" => ((k_dflt (refine' kst_end (_, _) ?zqF ?zqN ?zqa ?zqb ?zqc ?zqf ?zqk ?zqr ?zqp; (case zqF => k_asm); (case zqN => k_asm); (case zqa => exact List.forall_mem_nil _); (case zqb => exact fun _ h => h); (case zqc => exact rfl); (case zqf => exact True.intro); (case zqk => exact List.forall_mem_cons.mpr ⟨by with_unfolding_all rfl, List.forall_mem_nil _⟩); (case zqr => (intro z h1 h2 h3; (have h2' := h2 _ (List.Mem.head _)); (have h3' : z ≠ Str.ofString "figure" := fun e => by rw [e] at h3; simp at h3); (dsimp only at h2'); simp [kstB, h1, h2', h3'])); (case zqp => exact ⟨by rw [valC_snoc, hd3, hp1], by (dsimp only; omega)⟩)))))
  (k_with "binaryOp Mult int int" => ((refine mul_int ?_ (IntMulOk.of_right (bits_small (by omega) (by omega))))))
  (k_with "exec Raise some none" => ((k_dflt (refine raise_mine' rfl ?_))))
  (k_with "call ref" => ((k_here; (with_reducible show wpAny _ _ (call (Value.ref 179) _) _ _ _); k_dflt ( refine' call_ls ?a1 ?a2 ?a3 ?a4 ?a5 ?a6 ?a7 ?B ?F ?X ?N ?T ?_; (case a1 => exact rfl); (case a2 => exact rfl); (case a3 => exact rfl); (case a4 => exact Nat.le_of_ble_eq_true rfl); (case a5 => exact Nat.le_of_ble_eq_true rfl); (case a6 => exact rfl); (case a7 => first | exact rfl | assumption); (case B => k_asm); (case F => k_asm); (case X => k_asm); (case N => k_asm); (case T => k_asm); k_whole; intro e9 t9 d9 o9 h9 tk9 F9 N9 S9 ne9; (try k_sweep); (try dsimp only)))))
  trivial
def LsDone (E : Value → Shared → Prop) (v : Value) (s₁ : Shared) : Prop := ∃ e t d, v = .ref e ∧ s₁.heap.get? 179 = some lsObj ∧ s₁.heap.get? e = some (excO t (some d)) ∧ E (.ref e) s₁
section
variable {prog : Program} {w : World} {A A₀ : Around} {E E' : Value → Shared → Prop} {s : Shared} {env : Env} {base g : Heap} {outer : List Env} {L a e t dA : Addr} {od : Obj} {m : Str → Option Value} {name : Str} {scope : Scope} {cd : Value} {news : Ledger}
theorem raise_mine' {x : Str} {np cpos pos : Pos} {args : List Expr} {Q : Flow → Shared → Prop} (hh : A.handled = none) (h : wpAny (model prog w) A (eval (.Call (.Name x np) args [] cpos) env) (LsDone E) E s) :
    wpAny (model prog w) A (exec (.Raise (some (.Call (.Name x np) args [] cpos)) none pos) env) Q E s := raise_mine hh h
theorem ls_done (hA : A.frames = some (envOf name scope L a cd :: outer)) (B : Below A₀ base outer g) (F : Fr g L s.heap m) (X : (hd.heap_39 w.params).In g) (hk : scope.kind = .function) (N : News g L s.heap ((e, excO t (some dA)) :: (dA, od) :: news)) (hs : SymD od) (hde : dA ≠ e)
    (rai : ∀ e d h', Flown g outer e d h' → E' (.ref e) { s with heap := h' }) : LsDone (Lv prog w A (envOf name scope L a cd) E') (.ref e) s :=
  ⟨e, t, dA, rfl, ls_cls (X.keeps F.keep), (N _ (.head _)).1, flown_first hA B F hk (N _ (.head _)).1 rfl rfl rfl rfl rfl (N _ (.tail _ (.head _))).1 hs (N _ (.head _)).2.2 (N _ (.tail _ (.head _))).2.2 (N _ (.tail _ (.head _))).2.1 hde fun h' R => rai e dA h' R⟩
end
set_option maxRecDepth 100000 in
set_option maxHeartbeats 1500000 in
theorem valueR_spec {prog : Program} {w : World} {c radix : Int} {r dl : List Int} {t u : Tok} (hc : 0 ≤ c) (hfit : (c :: r).length ≤ 100000) (hfit2 : (bodyL (c :: r)).length ≤ 100000) (hdl : (bodyL (c :: r)).map loC = dl) (hne : dl ≠ [])
   (hok : ∀ x ∈ bodyL (c :: r), okc x) (hdg : ∀ x ∈ dl, lowdig radix x) (hr : radix ≤ 36) (hr2 : 2 ≤ radix) (hbig : 65536 < Builtin.Int.intBits (valC radix dl)) :
    SpecR prog w (hd.heap_39 w.params) 660 6600 205 [.str (KStt.txt (c :: r)) t, .int radix u] [] := by
  subst hdl
  k_extra "my enterR"
  intro pr loose mean mg mb outer A₀ base g L' h₁ s tk E' B F X N T lt rai
  have hln := txt_len (c :: r)
  k_steps
  · rename ((_ == _) = true) => hq
    exact absurd hq (txt_not_empty hne)
  · exact ls_done rfl (by assumption) (by assumption) (by assumption) rfl (by assumption) (by assumption) (by assumption) fun e d h' R => rai e d h' _ R
  all_goals (rw [codes_txt (low_pos hdg)] at hp1; rw [← hp1] at hbig; omega)
end PartMP
section PartMZ
theorem word_27 : True := by
  k_with_none
  (k_with "my e0" => (((case ho | hcd => k_is); (case hr => decide); (case hb => first | exact fun s X => BindsTo.of_eq rfl | exact fun s X => binds_K X rfl (by k_is) rfl rfl rfl); (case hl => exact locs rfl); (case c1 | c2 | c3 => exact rfl); (case c4 => decide))))
  (k_with "my enter" => ((k_dflt (refine' spec_of ?ho ?hcd ?hr ?hb ?hl ?c1 ?c2 ?c3 ?c4 ?_; k_extra "my e0"))))
  (k_with "my enterR" => ((k_dflt (refine' specR_of ?ho ?hcd ?hr ?hb ?hl ?c1 ?c2 ?c3 ?c4 ?_; k_extra "my e0"))))
  (k_with "my rst" => (first | exact Rst.nil | exact Rst.all (fun _ _ => List.not_mem_nil) | exact Rst.all hown9 | (refine' Rst.drop ?ra ?rb; (case ra => k_extra "my in"); (case rb => k_extra "my rst")) | (refine' Rst.keep ?ra ?rb; (case ra => k_extra "my notin"); (case rb => k_extra "my rst"))))
  (k_with "my c1" => (((case a1 | a2 | a3 => exact rfl); (case a4 | a5 => exact Nat.le_of_ble_eq_true rfl))))
  (k_with "my c2" => (((case a7 => first | exact rfl | assumption); (case B | F | X | N | T => k_asm))))
  (k_with "my c4" => ((k_extra "my c1"; (case a6 => exact rfl); k_extra "my c2")))
  (k_with "my c3" => (((case hn => k_extra "my mem"); (case has => exact rfl); (case hr => k_extra "my rst"))))
  (k_with "eval Constant int" => ((refine wpAny_Constant_int ?_; (try dsimp only))))
  (k_with "evalPairs" => ((first | (refine pairTrees_cons_walk ?_; (try dsimp only)) | (refine pairTrees_nil_walk ?_; (try dsimp only)))))
  (k_with "my mem" => (first | exact List.forall_mem_nil _ | (refine' List.forall_mem_cons.mpr ⟨?ma, ?mb⟩; (case ma => k_mem); (case mb => k_extra "my mem"))))
  (k_with "my notin" => (first | exact List.not_mem_nil | (refine' notin_cons ?na ?nb; (case na => ((try dsimp only); first | k_extra "my ne" | omega)); (case nb => k_extra "my notin"))))
  (k_with "my in" => (first | exact List.Mem.head _ | (refine' List.Mem.tail _ ?_; k_extra "my in")))
  (k_with "my post" => (((try k_sweep); (try dsimp only); (try k_fold))))
  (k_with "my pre" => ((first | omega | (simp only [bne_iff_ne, ne_eq, beq_iff_eq, decide_eq_true_eq, Bool.not_eq_true'] ; omega))))
  (k_with "ite" => (first | (k_openite; goal_has Mine.codeAt; first | (refine ite_pos (by k_extra "my pre") ?_; walk_say "MINE") | (refine ite_neg (by k_extra "my pre") ?_; walk_say "MINE")) | (k_closed; first | (refine ite_pos (by decide) ?_; walk_say "MINEC") | (refine ite_neg (by decide) ?_; walk_say "MINEC"))))
  (k_with "WhlIf" => ((goal_has Mine.codeAt; first | (refine WhlIf.yes (by (simp only [bne_iff_ne, ne_eq, beq_iff_eq, decide_eq_true_eq, Bool.not_eq_true', Bool.and_eq_true] ; omega)) ?_; walk_say "MINE") | (refine WhlIf.no (by (simp only [bne_eq_false_iff_eq, beq_eq_false_iff_ne, ne_eq, decide_eq_false_iff_not, Bool.and_eq_false_iff] ; omega)) ?_; walk_say "MINE"))))
  trivial
theorem valueR_x {prog : Program} {w : World} {x : Str} {c radix : Int} {r dl : List Int} {t u : Tok} (hx : x = KStt.txt (c :: r)) (hc : 0 ≤ c) (hfit : (c :: r).length ≤ 100000) (hfit2 : (bodyL (c :: r)).length ≤ 100000) (hdl : (bodyL (c :: r)).map loC = dl) (hne : dl ≠ [])
   (hok : ∀ x ∈ bodyL (c :: r), okc x) (hdg : ∀ x ∈ dl, lowdig radix x) (hr : radix ≤ 36) (hr2 : 2 ≤ radix) (hbig : 65536 < Builtin.Int.intBits (valC radix dl)) :
    SpecR prog w (hd.heap_39 w.params) 660 6600 205 [.str x t, .int radix u] [] := by
  subst hx
  exact valueR_spec hc hfit hfit2 hdl hne hok hdg hr hr2 hbig
/-- a word of figures behind a place, too wide -/
structure WordBig (cs : List Int) (q radix c : Int) (r : List Int) : Prop where
  hoka : ∀ c ∈ cs.drop q.toNat, okc c
  hw : cs.drop q.toNat = c :: r
  hc : 0 ≤ c
  hfit1 : (c :: r).length ≤ 100000
  hfit2 : (bodyL (c :: r)).length ≤ 100000
  hne : (bodyL (c :: r)).map loC ≠ []
  hok : ∀ x ∈ bodyL (c :: r), okc x
  hdg : ∀ x ∈ (bodyL (c :: r)).map loC, lowdig radix x
  hbig : 65536 < Builtin.Int.intBits (valC radix ((bodyL (c :: r)).map loC))
theorem word_28 : True := by
  (k_with "call ref" => ((k_here; first | ((with_reducible show wpAny _ _ (call (Value.ref 205) _) _ _ _); k_dflt ((show wpAny _ _ (call (Value.ref 205) [Value.str _ _, Value.int _ _]) _ _ _); refine' specR_use (valueR_x ?hx ?h0 ?h1 ?h2 ?h3 ?h4 ?h5 ?h6 ?h7 ?h8 ?h9) ?a1 ?a2 ?a3 ?a4 ?a5 ?a7 ?B ?F ?X ?N ?T ?hn ?_; k_extra "my c1"; k_extra "my c2"; (case hn => k_extra "my mem"); (case hx => first | assumption | (with_reducible exact rfl)); (case h0 | h1 | h2 => assumption); (case h3 => exact rfl); (case h4 | h5 | h6 => assumption); (case h7 | h8 => omega); (case h9 => assumption); k_whole; intro e9 d9 h9 tk9 R9; exact rai _ _ _ _ R9)) | ((with_reducible show wpAny _ _ (call (Value.ref 309) _) _ _ _); k_dflt ((show wpAny _ _ (call (Value.ref 309) [Value.ref _]) _ _ _); refine' spec_use' (name_spec ?h0 ?h1 ?h2 ?h3 ?h4 ?h5 ?h6 ?h7) ?a1 ?a2 ?a3 ?a4 ?a5 ?a6 ?a7 ?B ?F ?X ?N ?T ?hn ?has ?hr ?_; k_extra "my c4"; k_extra "my c3"; (case h0 => assumption); (case h1 | h2 => omega); (case h3 | h4 | h5 | h6 | h7 => assumption); k_whole; intro v9 nn9 h9 tk9 hP9 F9 N9 fr9; (obtain ⟨T9, t9, t39, k9, hT9, rfl, rfl⟩ := hP9); (rw [hw] at N9); (simp only [tokL, List.cons_append, List.nil_append] at N9); k_extra "my post")))))
  trivial
set_option maxRecDepth 100000 in
set_option maxHeartbeats 1500000 in
theorem in_radixR_spec {prog : Program} {w : World} {x dx Cd : Addr} {vs : List Value} {cs : List Int} {nC : Nat} {p c : Int} {r : List Int} {t1 t2 t3 u : Tok} {st : Value} (hi : IntsAre vs cs) (hp0 : 0 ≤ p) (hp2 : p ≤ (cs.length : Int)) (hfit : cs.length ≤ 100000)
    (n1 : @Ne Nat x dx) (n2 : @Ne Nat x Cd) (n3 : @Ne Nat dx Cd) (W : WordBig cs p 16 c r) :
    SpecR prog w (hd.heap_39 w.params) 640 6400 330 [.ref x, .int 16 u, st] (tokL w x dx Cd vs nC p t1 t2 t3) := by
  k_extra "my enterR"
  intro pr loose mean mg mb outer A₀ base g L' h₁ s tk E' B F X N T lt rai
  k_lt lt
  obtain ⟨hoka, hw, hc, hfit1, hfit2, hne, hok, hdg, hbig⟩ := W
  k_steps
theorem in_radixR_x {prog : Program} {w : World} {x dx Cd : Addr} {vs : List Value} {cs : List Int} {nC : Nat} {p c rx : Int} {r : List Int} {t1 t2 t3 u : Tok} {st : Value} (hx : rx = 16) (hi : IntsAre vs cs) (hp0 : 0 ≤ p) (hp2 : p ≤ (cs.length : Int)) (hfit : cs.length ≤ 100000)
    (n1 : @Ne Nat x dx) (n2 : @Ne Nat x Cd) (n3 : @Ne Nat dx Cd) (W : WordBig cs p 16 c r) :
    SpecR prog w (hd.heap_39 w.params) 640 6400 330 [.ref x, .int rx u, st] (tokL w x dx Cd vs nC p t1 t2 t3) := by
  subst hx
  exact in_radixR_spec hi hp0 hp2 hfit n1 n2 n3 W
theorem word_29 : True := by
  (k_with "call ref" => ((k_here; first | ((with_reducible show wpAny _ _ (call (Value.ref 330) _) _ _ _); k_dflt ((show wpAny _ _ (call (Value.ref 330) [Value.ref _, Value.int _ _, _]) _ _ _); refine' specR_use (in_radixR_x ?hx ?h0 ?h1 ?h2 ?h3 ?h4 ?h5 ?h6 ?hW) ?a1 ?a2 ?a3 ?a4 ?a5 ?a7 ?B ?F ?X ?N ?T ?hn ?_; k_extra "my c1"; k_extra "my c2"; (case hn => k_extra "my mem"); (case hx => first | exact rfl | decide | omega); (case h0 => assumption); (case h1 | h2 => omega); (case h3 | h4 | h5 | h6 | hW => assumption); k_whole; intro e9 d9 h9 tk9 R9; exact rai _ _ _ _ R9)) | ((with_reducible show wpAny _ _ (call (Value.ref 267) _) _ _ _); k_dflt ((show wpAny _ _ (call (Value.ref 267) [Value.ref _, Value.int _ _]) _ _ _); refine' spec_ro (code1_spec ?h0 ?h1 ?h3 ?h2) ?a1 ?a2 ?a3 ?a4 ?a5 ?a6 ?a7 ?B ?F ?X ?N ?T ?hn ?_; k_extra "my c4"; (case hn => k_extra "my mem"); (case h0 => assumption); (case h1 | h3 => omega); (case h2 => assumption); k_whole; intro v9 h9 tk9 hP9 F9 N9; (obtain ⟨t9, rfl⟩ := hP9); (try simp only [hq0, hq1, hq2]); k_extra "my post")) | ((with_reducible show wpAny _ _ (call (Value.ref 267) _) _ _ _); k_dflt ((show wpAny _ _ (call (Value.ref 267) [Value.ref _]) _ _ _); refine' spec_ro (code0_spec ?h0 ?h1 ?h2) ?a1 ?a2 ?a3 ?a4 ?a5 ?a6 ?a7 ?B ?F ?X ?N ?T ?hn ?_; k_extra "my c4"; (case hn => k_extra "my mem"); (case h0 => assumption); (case h1 => omega); (case h2 => assumption); k_whole; intro v9 h9 tk9 hP9 F9 N9; (obtain ⟨t9, rfl⟩ := hP9); (try simp only [hq0, hq1, hq2]); k_extra "my post")))))
  trivial
set_option maxRecDepth 100000 in
set_option maxHeartbeats 1500000 in
theorem dispatchedX_spec {prog : Program} {w : World} {x dx Cd : Addr} {vs : List Value} {cs : List Int} {nC : Nat} {p c : Int} {r : List Int} {t1 t2 t3 u : Tok} (hi : IntsAre vs cs) (hp0 : 0 ≤ p) (hp2 : p + 2 ≤ (cs.length : Int)) (hfit : cs.length ≤ 100000)
    (n1 : @Ne Nat x dx) (n2 : @Ne Nat x Cd) (n3 : @Ne Nat dx Cd) (hq0 : codeAt cs (p + 1) = 120) (W : WordBig cs (p + 2) 16 c r) :
    SpecR prog w (hd.heap_39 w.params) 620 6200 323 [.ref x, .int p u] (tokL w x dx Cd vs nC p t1 t2 t3) := by
  k_extra "my enterR"
  intro pr loose mean mg mb outer A₀ base g L' h₁ s tk E' B F X N T lt rai
  k_lt lt
  have hq1 := hq0
  have hq2 := hq0
  k_steps
theorem word_30 : True := by
  (k_with "call ref" => ((k_here; first | ((with_reducible show wpAny _ _ (call (Value.ref 323) _) _ _ _); k_dflt ((show wpAny _ _ (call (Value.ref 323) [Value.ref _, Value.int _ _]) _ _ _); refine' specR_use (dispatchedX_spec ?h0 ?h1 ?h2 ?h3 ?h4 ?h5 ?h6 ?hq ?h7) ?a1 ?a2 ?a3 ?a4 ?a5 ?a7 ?B ?F ?X ?N ?T ?hn ?_; k_extra "my c1"; k_extra "my c2"; (case hn => k_extra "my mem"); (case h0 => assumption); (case h1 | h2 => omega); (case h3 | h4 | h5 | h6 | hq | h7 => assumption); k_whole; intro e9 d9 h9 tk9 R9; exact rai _ _ _ _ R9)) | ((with_reducible show wpAny _ _ (call (Value.ref 281) _) _ _ _); k_dflt ((show wpAny _ _ (call (Value.ref 281) [Value.ref _]) _ _ _); refine' spec_ro (skip_blanks_spec ?h0 ?h1 ?h2 ?h3) ?a1 ?a2 ?a3 ?a4 ?a5 ?a6 ?a7 ?B ?F ?X ?N ?T ?hn ?_; k_extra "my c4"; (case hn => k_extra "my mem"); (case h0 => assumption); (case h1 => omega); (case h2 | h3 => assumption); k_whole; intro v9 h9 tk9 hP9 F9 N9; (subst hP9); k_extra "my post")) | ((with_reducible show wpAny _ _ (call (Value.ref 267) _) _ _ _); k_dflt ((show wpAny _ _ (call (Value.ref 267) [Value.ref _, Value.int _ _]) _ _ _); refine' spec_ro (code1_spec ?h0 ?h1 ?h3 ?h2) ?a1 ?a2 ?a3 ?a4 ?a5 ?a6 ?a7 ?B ?F ?X ?N ?T ?hn ?_; k_extra "my c4"; (case hn => k_extra "my mem"); (case h0 => assumption); (case h1 | h3 => omega); (case h2 => assumption); k_whole; intro v9 h9 tk9 hP9 F9 N9; (obtain ⟨t9, rfl⟩ := hP9); (try simp only [hq0, hq1, hq2]); k_extra "my post")) | ((with_reducible show wpAny _ _ (call (Value.ref 267) _) _ _ _); k_dflt ((show wpAny _ _ (call (Value.ref 267) [Value.ref _]) _ _ _); refine' spec_ro (code0_spec ?h0 ?h1 ?h2) ?a1 ?a2 ?a3 ?a4 ?a5 ?a6 ?a7 ?B ?F ?X ?N ?T ?hn ?_; k_extra "my c4"; (case hn => k_extra "my mem"); (case h0 => assumption); (case h1 => omega); (case h2 => assumption); k_whole; intro v9 h9 tk9 hP9 F9 N9; (obtain ⟨t9, rfl⟩ := hP9); (try simp only [hq0, hq1, hq2]); k_extra "my post")))))
  trivial
set_option maxRecDepth 100000 in
set_option maxHeartbeats 1500000 in
theorem tokenX_spec {prog : Program} {w : World} {x dx Cd : Addr} {vs : List Value} {cs : List Int} {nC : Nat} {p c : Int} {r : List Int} {t1 t2 t3 : Tok} (hi : IntsAre vs cs) (hp0 : 0 ≤ p) (hp2 : p + 2 ≤ (cs.length : Int)) (hfit : cs.length ≤ 100000)
    (n1 : @Ne Nat x dx) (n2 : @Ne Nat x Cd) (n3 : @Ne Nat dx Cd) (hq0 : codeAt cs p = 35) (hq1 : codeAt cs (p + 1) = 120) (W : WordBig cs (p + 2) 16 c r) :
    SpecR prog w (hd.heap_39 w.params) 610 6100 288 [.ref x] (tokL w x dx Cd vs nC p t1 t2 t3) := by
  k_extra "my enterR"
  intro pr loose mean mg mb outer A₀ base g L' h₁ s tk E' B F X N T lt rai
  k_lt lt
  have hq2 := hq0
  have hqb : 32 < codeAt cs p ∧ codeAt cs p ≠ 160 ∧ codeAt cs p ≠ 59 ∧ (codeAt cs p = 35 → codeAt cs (p + 1) ≠ 33) := by omega
  k_steps
  all_goals (exfalso; omega)
end PartMZ
section PartMC
open LCg
section
variable {prog : Program} {w : World} {A : Around} {E : Value → Shared → Prop} {s : Shared} {h₀ : Heap} {L : Addr} {m : Str → Option Value} {env : Env}
theorem pyIter_str2 {x : Str} {t : Tok} {Q : Value → Shared → Prop}
    (hQ : ∀ (o : Obj) (ty : String), (∀ A' : Around, A'.handled = none → Walks prog w A' s.heap.objs.size [s.heap.objs.size] [s.heap.objs.size] x.cps.size (SignAt x) (fun i h => h.IsStrIter s.heap.objs.size ty x t i)) → (s.heap.push o).IsStrIter s.heap.objs.size ty x t 0 → Q (.ref s.heap.objs.size) { s with heap := s.heap.push o }) : wpAny (model prog w) A (pyIter (.str x t)) Q E s := by
  cases ha : x.cps.all (· < 128)
  · exact wpAny_pyIter_wide ha (hQ _ _ (fun A' hA => Walks.strWide hA _ x t) ⟨_, Heap.get?_push_size _ rfl, rfl, rfl⟩)
  · exact wpAny_pyIter_ascii ha (hQ _ _ (fun A' hA => Walks.strAscii hA _ x t) ⟨_, Heap.get?_push_size _ rfl, rfl, rfl⟩)
theorem ListComp_tx {elt iter : Expr} {x : Str} {px : Pos} {scope : Scope} {cl : List (Str × Addr)} {pos : Pos} {Q : Value → Shared → Prop}
    (hclos : closureFor scope env = pure cl) (hcell : ∀ y ∈ scope.names, y.2 ≠ .cell) (hkind : scope.kind = .function)
    (hnames : ∀ y ∈ scope.names, y.2 = .local → scope.names.lookup y.1 = some .local) (hx : scope.names.lookup x = some .local)
    (h : wpAny (model prog w) A (eval iter env) (fun xv s₁ => ∃ y t news, xv = .str y t ∧ A.handled = none ∧ Fr h₀ L s₁.heap m ∧ News h₀ L s₁.heap news ∧ y.cps.size ≤ sizeLine ∧
      ∀ g, CompRest prog w A h₀ L m env elt x scope cl { s₁ with heap := g } (fun _ => True) (SignAt y) (FinE h₀ L m { s₁ with heap := g } Q) y.cps.size 0 [] news) E s)
    (hs : ∀ x, foldedSetIterable iter env x = pure x := by intro _; rfl) :
    wpAny (model prog w) A (eval (.ListComp elt [⟨.Name x px, iter, [], 0⟩] scope pos) env) Q E s := by
  rw [eval_ListComp]
  refine wpAny_comprehension_free (use := none) rfl hs hclos hkind hnames (wpAny_mono h (fun xv s₁ h₁ => ?_) fun _ _ e => e)
  obtain ⟨y, t, news, rfl, hh, F, N, hsz, R⟩ := h₁
  refine pyIter_str2 fun o ty W hst => ?_
  have up : ∀ b o', s₁.heap.get? b = some o' → (s₁.heap.push o).get? b = some o' := fun b o' e => Heap.get?_push_of_some _ e
  refine block_U (W A hh) hsz (fun i h st => by obtain ⟨o, e, _⟩ := st; exact ⟨o, e⟩) (fun i h h' o nw st e e' _ _ _ => by obtain ⟨o', q, r⟩ := st; rw [e] at q; cases q; exact ⟨o, e', r⟩) hcell hkind hx hst (fun b hb => ?_)
      (F.keeps up) (N.grown up) (Nat.ne_of_lt F.ns.lt) (next_is_new F) (fun p hp => Nat.ne_of_lt (Heap.lt_size (N p hp).1)) True.intro (R _) ?_
  · show b < (s₁.heap.push _).objs.size
    rw [List.mem_singleton.mp hb, Heap.size_push]
    exact Nat.lt_succ_self _
  · intro D C h tk m' ys news' F' N' o1 hn hC₀ hD₀ hCL hDL hCD offC fin
    refine ⟨m', hn, fun h'' hs'' => fin D h'' tk (F'.change hs'' hCL hC₀) (fun p hp => ?_) o1⟩
    refine ⟨hs''.extBut _ _ ?_ (N' p hp).1, (N' p hp).2⟩
    rcases List.mem_cons.mp hp with rfl | hp
    · exact Ne.symm hCD
    · exact offC p hp
theorem ints_snoc {y : Int} {t : Tok} : ∀ {vs : List Value} {ys : List Int}, IntsAre vs ys → IntsAre (vs ++ [.int y t]) (ys ++ [y])
  | _, _, .nil => .cons y t .nil
  | _, _, .cons z u r => .cons z u (ints_snoc r)
theorem txt_size (l : List Int) : (KStt.txt l).cps.size = l.length := by simp [KStt.txt]
theorem sign_at {l : List Int} {i : Nat} {v : Value} (h : SignAt (KStt.txt l) i v) : ∃ c t, l[i]? = some c ∧ v = .str ⟨#[c.toNat]⟩ t := by
  obtain ⟨c, u, hc, rfl⟩ := h
  have : ((l.map Int.toNat).toArray)[i]? = some c := hc
  rw [List.getElem?_toArray, List.getElem?_map] at this
  cases q : l[i]? with
  | none => rw [q] at this; cases this
  | some z => rw [q] at this; cases this; exact ⟨z, u, rfl, rfl⟩
variable {elt : Expr} {x : Str} {scope : Scope} {cl : List (Str × Addr)} {Fin : List Value → List (Addr × Obj) → Prop} {news : List (Addr × Obj)}
theorem tx_rest {l : List Int}
    (turn : ∀ c t I oI C oC D m₂ ys h tk (E' : Value → Shared → Prop), c ∈ l → NsObj oC m₂ → m₂ x = some (.str ⟨#[c.toNat]⟩ t) → Fr h₀ L h m → News h₀ L h ((I, oI) :: (C, oC) :: (D, lst ys) :: news) → Off3 I C D news → ((@Ne Nat I C) ∧ (@Ne Nat I D) ∧ (@Ne Nat C D)) →
      wpAny (model prog w) A (eval elt (compEnvC scope cl C env)) (CompEnd h₀ L m { s with heap := h, toks := tk } I oI C oC D (lst ys) (fun _ => True) (fun y news' => news' = news ∧ ∃ t, y = .int c t)) E' { s with heap := h, toks := tk })
    (fin : ∀ ys, IntsAre ys l → Fin ys news) : CompRest prog w A h₀ L m env elt x scope cl s (fun _ => True) (SignAt (KStt.txt l)) Fin (KStt.txt l).cps.size 0 [] news := by
  have key : ∀ (j i : Nat) (ys : List Value), i + j = l.length → IntsAre ys (l.take i) → CompRest prog w A h₀ L m env elt x scope cl s (fun _ => True) (SignAt (KStt.txt l)) Fin j i ys news := by
    intro j
    induction j with
    | zero =>
      intro i ys hi hy
      have e : i = l.length := by omega
      subst e
      rw [List.take_length] at hy
      exact CompRest.zero (fin ys hy)
    | succ j ih =>
      intro i ys hi hy
      refine CompRest.succ ?_
      intro v I oI C oC D m₂ h tk E' hv hC hx F N off ne
      obtain ⟨c, t, hk, hv'⟩ := sign_at hv
      rw [hv'] at hx
      refine wpAny_mono (turn c t I oI C oC D m₂ ys h tk E' (List.mem_of_getElem? hk) hC hx F N off ne) (fun y s₂ hq => ?_) fun _ _ e => e
      obtain ⟨h', tk', nw, e, F', N', off', hS, hn, t', hy'⟩ := hq
      rw [hn] at N' off'
      refine ⟨h', tk', news, e, F', N', off', hS, ?_⟩
      rw [hy']
      refine ih (i + 1) _ (by omega) ?_
      rw [List.take_add_one, hk]
      exact ints_snoc hy
  rw [txt_size]
  exact key l.length 0 [] (by omega) (by simp only [List.take_zero]; exact .nil)
def TxSrc (prog : Program) (w : World) (A : Around) (h₀ : Heap) (L : Addr) (m : Str → Option Value) (env : Env) (elt : Expr) (x : Str) (scope : Scope) (cl : List (Str × Addr)) (Q : Value → Shared → Prop) (xv : Value) (s₁ : Shared) : Prop :=
  ∃ y t news, xv = .str y t ∧ A.handled = none ∧ Fr h₀ L s₁.heap m ∧ News h₀ L s₁.heap news ∧ y.cps.size ≤ sizeLine ∧
      ∀ g, CompRest prog w A h₀ L m env elt x scope cl { s₁ with heap := g } (fun _ => True) (SignAt y) (FinE h₀ L m { s₁ with heap := g } Q) y.cps.size 0 [] news
theorem ListComp_tx' {elt iter : Expr} {x : Str} {px : Pos} {scope : Scope} {cl : List (Str × Addr)} {pos : Pos} {Q : Value → Shared → Prop} (_F₀ : Fr h₀ L s.heap m)
    (hclos : closureFor scope env = pure cl) (hcell : ∀ y ∈ scope.names, y.2 ≠ .cell) (hkind : scope.kind = .function)
    (hnames : ∀ y ∈ scope.names, y.2 = .local → scope.names.lookup y.1 = some .local) (hx : scope.names.lookup x = some .local)
    (h : wpAny (model prog w) A (eval iter env) (TxSrc prog w A h₀ L m env elt x scope cl Q) E s)
    (hs : ∀ x, foldedSetIterable iter env x = pure x := by intro _; rfl) :
    wpAny (model prog w) A (eval (.ListComp elt [⟨.Name x px, iter, [], 0⟩] scope pos) env) Q E s := ListComp_tx hclos hcell hkind hnames hx h hs
theorem tx_src {Q : Value → Shared → Prop} {l : List Int} {t : Tok} (hh : A.handled = none) (F : Fr h₀ L s.heap m) (N : News h₀ L s.heap news) (hz : l.length ≤ 100000)
    (turn : ∀ c t I oI C oC D m₂ ys h tk (E' : Value → Shared → Prop), c ∈ l → NsObj oC m₂ → m₂ x = some (.str ⟨#[c.toNat]⟩ t) → Fr h₀ L h m → News h₀ L h ((I, oI) :: (C, oC) :: (D, lst ys) :: news) → Off3 I C D news → ((@Ne Nat I C) ∧ (@Ne Nat I D) ∧ (@Ne Nat C D)) →
      wpAny (model prog w) A (eval elt (compEnvC scope cl C env)) (CompEnd h₀ L m { s with heap := h, toks := tk } I oI C oC D (lst ys) (fun _ => True) (fun y news' => news' = news ∧ ∃ t, y = .int c t)) E' { s with heap := h, toks := tk })
    (fin : ∀ (g : Heap) ys, IntsAre ys l → FinE h₀ L m { s with heap := g } Q ys news) : TxSrc prog w A h₀ L m env elt x scope cl Q (.str (KStt.txt l) t) s :=
  ⟨_, t, news, rfl, hh, F, N, by rw [txt_size, sizeLine_eq]; omega, fun g => tx_rest turn (fin g)⟩
end
end PartMC
section PartNA
theorem word_31 : True := by
  k_with_none
  (k_with "my e0" => (((case ho | hcd => k_is); (case hr => decide); (case hb => first | exact fun s X => BindsTo.of_eq rfl | exact fun s X => binds_K X rfl (by k_is) rfl rfl rfl); (case hl => exact locs rfl); (case c1 | c2 | c3 => exact rfl); (case c4 => decide))))
  (k_with "my enter" => ((k_dflt (refine' spec_of ?ho ?hcd ?hr ?hb ?hl ?c1 ?c2 ?c3 ?c4 ?_; k_extra "my e0"))))
  (k_with "my enterR" => ((k_dflt (refine' specR_of ?ho ?hcd ?hr ?hb ?hl ?c1 ?c2 ?c3 ?c4 ?_; k_extra "my e0"))))
  (k_with "my rst" => (first | exact Rst.nil | exact Rst.all (fun _ _ => List.not_mem_nil) | exact Rst.all hown9 | (refine' Rst.drop ?ra ?rb; (case ra => k_extra "my in"); (case rb => k_extra "my rst")) | (refine' Rst.keep ?ra ?rb; (case ra => k_extra "my notin"); (case rb => k_extra "my rst"))))
  (k_with "my c1" => (((case a1 | a2 | a3 => exact rfl); (case a4 | a5 => exact Nat.le_of_ble_eq_true rfl))))
  (k_with "my c2" => (((case a7 => first | exact rfl | assumption); (case B | F | X | N | T => k_asm))))
  (k_with "my c4" => ((k_extra "my c1"; (case a6 => exact rfl); k_extra "my c2")))
  (k_with "my c3" => (((case hn => k_extra "my mem"); (case has => exact rfl); (case hr => k_extra "my rst"))))
  (k_with "eval Constant int" => ((refine wpAny_Constant_int ?_; (try dsimp only))))
  (k_with "evalPairs" => ((first | (refine pairTrees_cons_walk ?_; (try dsimp only)) | (refine pairTrees_nil_walk ?_; (try dsimp only)))))
  (k_with "my mem" => (first | exact List.forall_mem_nil _ | (refine' List.forall_mem_cons.mpr ⟨?ma, ?mb⟩; (case ma => k_mem); (case mb => k_extra "my mem"))))
  (k_with "my notin" => (first | exact List.not_mem_nil | (refine' notin_cons ?na ?nb; (case na => ((try dsimp only); first | k_extra "my ne" | omega)); (case nb => k_extra "my notin"))))
  (k_with "my in" => (first | exact List.Mem.head _ | (refine' List.Mem.tail _ ?_; k_extra "my in")))
  (k_with "my post" => (((try k_sweep); (try dsimp only); (try k_fold))))
  (k_with "my pre" => ((first | omega | (simp only [bne_iff_ne, ne_eq, beq_iff_eq, decide_eq_true_eq, Bool.not_eq_true'] ; omega))))
  (k_with "ite" => (first | (k_openite; goal_has Mine.codeAt; first | (refine ite_pos (by k_extra "my pre") ?_; walk_say "MINE") | (refine ite_neg (by k_extra "my pre") ?_; walk_say "MINE")) | (k_closed; first | (refine ite_pos (by decide) ?_; walk_say "MINEC") | (refine ite_neg (by decide) ?_; walk_say "MINEC"))))
  (k_with "WhlIf" => ((goal_has Mine.codeAt; first | (refine WhlIf.yes (by (simp only [bne_iff_ne, ne_eq, beq_iff_eq, decide_eq_true_eq, Bool.not_eq_true', Bool.and_eq_true] ; omega)) ?_; walk_say "MINE") | (refine WhlIf.no (by (simp only [bne_eq_false_iff_eq, beq_eq_false_iff_ne, ne_eq, decide_eq_false_iff_not, Bool.and_eq_false_iff] ; omega)) ?_; walk_say "MINE"))))
  trivial
open LCg
theorem word_32 : True := by
  (k_with "call ref" => ((k_here; first | ((with_reducible show wpAny _ _ (call (Value.ref 288) _) _ _ _); k_dflt ((show wpAny _ _ (call (Value.ref 288) [Value.ref _]) _ _ _); refine' spec_use' (S ?h0 ?h4 ?h5 ?h6) ?a1 ?a2 ?a3 ?a4 ?a5 ?a6 ?a7 ?B ?F ?X ?N ?T ?hn ?has ?hr ?_; k_extra "my c4"; k_extra "my c3"; (case h0 => assumption); (case h4 | h5 | h6 => first | assumption | omega); k_whole; intro v9 nn9 h9 tk9 hP9 F9 N9 fr9; (obtain ⟨T9, t9, t09, ts9, t39, k9, hT9, rfl, rfl⟩ := hP9); (simp only [tokL, List.cons_append, List.nil_append] at N9); k_extra "my post")))))
  (k_with "eval ListComp" => ((k_here; k_dflt (refine ListComp_tx' (_F₀ := by k_asm) (by with_unfolding_all rfl) (by decide) (by rfl) (by decide) (by rfl) ?_))))
  trivial
set_option maxRecDepth 100000 in
set_option maxHeartbeats 1500000 in
theorem heard_spec {prog : Program} {w : World} {l : List Int} {val : Int} {t : Tok} (h0 : ∀ x ∈ l, 0 ≤ x ∧ x < 128) (hfit : l.length ≤ 100000)
    (S : ∀ {x dx Cd : Addr} {vs : List Value} {nC : Nat} {t1 t2 t3 : Tok}, IntsAre vs l → @Ne Nat x dx → @Ne Nat x Cd → @Ne Nat dx Cd → Spec prog w (hd.heap_39 w.params) 610 6100 288 [.ref x] (tokL w x dx Cd vs nC 0 t1 t2 t3) (TokPost w x dx Cd vs nC l t1 t2 val 0)) :
    Spec prog w (hd.heap_39 w.params) 605 6050 373 [.str (KStt.txt l) t] [] (fun v nn => ∃ T t t0 ts k, v = .ref T ∧ nn = [(T, intT val t t0 (.int 0 ts) k)]) := by
  k_extra "my enter"
  intro pr loose mean mg mb outer A₀ base g L' h₁ s tk Q B F X N T lt ret
  have hln := txt_len l
  k_steps
  refine tx_src rfl F N hfit ?turn ?fin
  case turn =>
    intro c t' I oI C oC D m₂ ys h tk' E' hc hC hx F' N' off ne
    have hc' := h0 c hc
    clear F N
    k_steps
    exact congrArg (Value.int · _) (Int.toNat_of_nonneg hc'.1)
  case fin =>
    intro g' ys hys D h tk' F' N' o1
    clear F N
    have hyl := hys.length
    k_steps
    exact ret _ _ _ _ _ _ rfl ⟨_, _, _, _, _, rfl, rfl⟩ (by assumption) (cb_drop (by assumption) (by k_extra "my mem"))
end PartNA
section PartMQ
section
open Builtin Builtin.ObjectAttr
variable {prog : Program} {w : World} {A : Around} {E : Value → Shared → Prop} {h : Heap} {g : Array GenState} {d : Drawn} {t : Nat} {os : OsState} {x dx : Addr} {name : Str} {v : Value} {mN mA : Str → Option Value} {o : Obj}
theorem sym_entry {nm q : Str} {C N : Addr} {bs bm : List Value} {sn : List Str} {sub : List Value} {ab : Bool} {col : Option Bool} {dd : Option Addr} {k0 k1 k2 k3 k5 : Option Value} {B newId : String} {tk : Tok} {Q : Fin → Shared → Prop} (FB : ExcAttrBase B bm)
    (hC : h.get? C = some (excClassObj nm q C N bs bm true sn sub ab col dd k0 k1 k2 k3 k5 newId)) (hn : h.Ns N mN) (hna : mN name = none) (hB : typeLookup (.type B) name = pure none)
    (hx : h.get? x = some o) (hc : o.cls = .ref C) (hnc : ∀ c, o.data ≠ .cls c) (hdx : o.dict = some dx) (hns : h.Ns dx mA) (hv : mA name = some v) (hq : Q (.done (.ret v)) ⟨h, g, d, t, os⟩) :
    wpAny (model prog w) A (Builtin.«object.__getattribute__» ⟨[.ref x, .str name tk], []⟩) Q E ⟨h, g, d, t, os⟩ := by
  unfold Builtin.«object.__getattribute__»
  repeat (first | (with_reducible refine wpAny_loadPart_at hx ?_; rw [hc]) | (with_reducible refine wpAny_typeLookup_exc hC hn FB.mro hB ?_; rw [hna]) | wp_step)
  split
  · rename_i c hcd
    exact absurd hcd (hnc c)
  unfold instanceDict
  repeat (first | (with_reducible refine wpAny_loadPart_at hx ?_; rw [hc]) | with_reducible refine wpAny_loadPart_at hC ?_ | wp_step)
  rw [hdx]
  repeat (first | (with_reducible refine wpAny_nsGet hns ?_; rw [hv]) | wp_step)
  exact hq
theorem check_ga {nm q : Str} {C N : Addr} {bs bm : List Value} {sn : List Str} {sub : List Value} {ab : Bool} {col : Option Bool} {dd : Option Addr} {k0 k1 k2 k3 k5 : Option Value} {B newId : String} {M : Model} {nameV : Value} {Q : Unit → Shared → Prop} (FB : ExcAttrBase B bm)
    (hC : h.get? C = some (excClassObj nm q C N bs bm true sn sub ab col dd k0 k1 k2 k3 k5 newId)) (hx : h.get? x = some o) (hc : o.cls = .ref C) (hq : Q () ⟨h, g, d, t, os⟩) : wpAny M A (checkBuiltinCall "BaseException.__getattribute__" ⟨[.ref x, nameV], []⟩) Q E ⟨h, g, d, t, os⟩ := by
  have hk : builtinKind "BaseException.__getattribute__" = some .slot := by decide +kernel
  have hsplit : splitId "BaseException.__getattribute__" = some ("BaseException", "__getattribute__") := by decide +kernel
  have hcB : (Value.ref C :: bm).contains (.type "BaseException") = true := by rw [List.contains_cons, FB.hasBase, Bool.or_true]
  have ha := PySem.F.args_bexc_ga (.ref x) nameV
  simp only [checkBuiltinCall, hk, hsplit]
  refine wpAny_bind ?_
  · unfold isInstance
    repeat (first | (with_reducible refine wpAny_loadPart_at hx ?_; rw [hc]) | (with_reducible refine wpAny_isSubtype_exc hC ?_; rw [hcB]) | wp_step)
    exact hq
theorem sym_attr {nm q : Str} {C N : Addr} {bs bm : List Value} {sn : List Str} {sub : List Value} {ab : Bool} {col : Option Bool} {dd : Option Addr} {k0 k1 k2 k3 k5 : Option Value} {B newId : String} {expr : Bool} {Q : Value → Shared → Prop} (FB : ExcAttrBase B bm)
    (hC : h.get? C = some (excClassObj nm q C N bs bm true sn sub ab col dd k0 k1 k2 k3 k5 newId)) (hn : h.Ns N mN) (hng : mN "__getattribute__" = none) (hnh : mN "__getattr__" = none) (hna : mN name = none) (hB : typeLookup (.type B) name = pure none)
    (hx : h.get? x = some o) (hc : o.cls = .ref C) (hnc : ∀ c, o.data ≠ .cls c) (hdx : o.dict = some dx) (hns : h.Ns dx mA) (hv : mA name = some v) (hh : handedOut v = pure v) (hq : Q v ⟨h, g, d, t + 1, os⟩) :
    wpAny (model prog w) A (getAttr (.ref x) name expr) Q E ⟨h, g, d, t, os⟩ := by
  have f3 := FB.ga.bind (.ref x)
  have hx0 : (expr && onTheHeap (Value.builtin "BaseException.__getattribute__")) = false := by cases expr <;> rfl
  have hx2 : (Value.builtin "BaseException.__getattribute__" == Value.builtin "object.__getattribute__") = false := by decide +kernel
  have hx1 : (onTheHeap (Value.ref C) && Value.builtin "BaseException.__getattribute__" == Value.builtin "object.__getattribute__") = false := by rw [hx2]; rfl
  unfold getAttr getAttrBy
  repeat (any_goals (first | assumption | (with_reducible refine wpAny_loadPart_at hx ?_; rw [hc]) | (with_reducible refine wpAny_typeLookup_exc hC hn FB.mro FB.ga.lookup ?_; rw [hng]) | (with_reducible refine wpAny_typeLookup_exc hC hn FB.mro FB.noGetattr ?_; rw [hnh]) | wp_step))
  refine codeAny_call_builtin FB.ga.plain PySem.F.entry_bexc_ga (check_ga FB hC hx hc (sym_entry FB hC hn hna hB hx hc hnc hdx hns hv ?_))
  show wpAny _ _ (handedOut v) _ _ _
  rw [hh]
  exact wpAny_pure hq
end
end PartMQ
section PartMO
section
variable {prog : Program} {w : World} {A A₀ : Around} {E : Value → Shared → Prop} {s s' : Shared} {base g G : Heap} {outer : List Env} {L a e d : Addr} {m : Str → Option Value} {name : Str} {scope : Scope} {cd : Value}
theorem kd_use {M : Model} {t : Sem Unit} {P : Heap → Prop} {Q : Unit → Shared → Prop} (k : KD t) (h : wpAny M A t (fun _ s' => s' = { s with heap := s'.heap } ∧ P s'.heap) E s) (hQ : ∀ h', P h' → SameD s.heap h' → Q () { s with heap := h' }) : wpAny M A t Q E s :=
  wpAny_mono (k.any h) (fun _ s' q => by rw [q.1.1]; exact hQ _ q.1.2 q.2) fun _ _ x => x
theorem caught_mine {p : Program} {loose : List Str} {mean : ExcName → Option Value} {mg mb : Str → Option Value} {x n : Str} {b₀ : Stmt} {suite : List Stmt} {pos np : Pos} {rest : List ExceptHandler} {Q : Flow → Shared → Prop}
    (hA : A.frames = some (envOf name scope L a cd :: outer)) (K : Below A₀ base outer g) (F : Fr g L G m) (R : Flown G (envOf name scope L a cd :: outer) e d s'.heap) (XB : (hd.heap_39 w.params).In base) (TB : Top p loose mean mg mb base)
    (ex : nsIn (hd.heap_39 w.params) mainGlobals x = some (some (.ref 179)))
    (k : ∀ h' g' tk oe dob, KtsTurn (frs outer) g g' → Fr g' L h' (fun y => if y = n then some (.ref e) else m y) → News g' L h' [(e, oe), (d, dob)] → oe.cls = .ref 179 → (∀ c, oe.data ≠ .cls c) → oe.dict = some d → SymD dob → Below A₀ base outer g' → (hd.heap_39 w.params).In g' → Top p loose mean mg mb g' →
      wpAny (model prog w) (A.mark (some (.ref e))) (execs (b₀ :: suite) (envOf name scope L a cd))
        (fun f s₄ => wpAny (model prog w) A (do bindName (envOf name scope L a cd) n .none; unbindBehindTheSuite (envOf name scope L a cd) n pos) (fun _ s₅ => Q f s₅) E s₄)
        (AsSuiteRaised (model prog w) (A.mark (some (.ref e))) (envOf name scope L a cd) n pos (notedBy (model prog w) (A.mark (some (.ref e))) (envOf name scope L a cd) (cameBackBy (model prog w) A (envOf name scope L a cd) E)))
        { s' with heap := h', toks := tk })
    (hk : scope.kind = .function := by rfl) (hlo : (envOf name scope L a cd).kindOf n = some .local := by rfl) (hx : (envOf name scope L a cd).kindOf x = some .globalImplicit := by rfl) (hdb : (x == ("__debug__" : Str)) = false := by decide) :
    wpAny (model prog w) A (noteFrame (.ref e) (envOf name scope L a cd))
      (fun _ s₂ => wpAny (model prog w) A (setFlight (.ref e) none) (fun _ s₃ =>
        wpAny (model prog w) A (handleBy (.ref e) (envOf name scope L a cd) (.ExceptHandler (some (.Name x np)) (some n) (b₀ :: suite) pos :: rest)) Q E s₃) E s₂) E s' := by
  obtain ⟨⟨B, a0, dob, hBG, hfl, hBd, hsd, hde⟩, hsm, ⟨oe, hoe, hoed⟩, hf1, hf2⟩ := R
  have hL : B.get? L = none := by
    obtain ⟨_, ⟨L', _, hf, hn', _⟩, _⟩ := hfl.2.2.1
    obtain rfl : L = L' := Option.some.inj hf
    exact hn'
  refine kd_use (P := fun h' => Heap.HeldW B (envOf name scope L a cd :: outer) e (.ref 179) a0 L h' ∧ s'.heap.UpToSlots h') (kd_noteFrame _ _) (wpAny_looks_onW hA rfl hfl fun h' k1 k2 => ⟨rfl, k1, k2⟩) fun h₄ ⟨hheld₄, hsm₄⟩ hd₄ => ?_
  refine kd_use (P := fun h' => Heap.FlyingW B (envOf name scope L a cd :: outer) e (.ref 179) a0 h' ∧ h₄.UpToSlots h') (kd_setFlight _ _) (wpAny_landsW hheld₄ fun h' k1 k2 => ⟨rfl, k1, k2⟩) fun h₅ ⟨hheld, hsm₅'⟩ hd₅' => ?_
  have hsm₅ := hsm₄.trans hsm₅'
  have hd₅ := hd₄.trans hd₅'
  obtain ⟨g₅, T₅, F₅, K₅⟩ := kts_ground K F hBG hheld.1 (hsm.trans hsm₅)
  have X₅ : (hd.heap_39 w.params).In g₅ := XB.keeps K₅.stays
  have P₅ : TopRead p loose mg mb g₅ := topRead_of (TB.keeps K₅.stays)
  obtain ⟨ob, hob, hobc⟩ := hheld.there
  have hC₅ := ls_cls (X₅.keeps F₅.keep)
  refine wpAny_handleBy_cons (codeAny_handlers_test (name_K F₅ X₅ P₅ ex ?_ hk hx hdb)) (by intro q; cases q)
  refine wpAny_excMatches_sub_self hC₅ hob hobc (by decide) (codeAny_handlers_suite_as ?_)
  refine kd_use (P := fun h' => Heap.FlyingW B (envOf name scope L a cd :: outer) e (.ref 179) a0 h' ∧ h₅.UpToSlots h') (kd_setFlight _ _) (lands_againW hheld fun h' k1 k2 => ⟨rfl, k1, k2⟩) fun h₆ ⟨hfl₆, hsm₆⟩ hd₆' => ?_
  have hd₆ := hd₅.trans hd₆'
  obtain ⟨g₆, T₆, F₆, K₆⟩ := kts_ground K F hBG hfl₆.1 ((hsm.trans hsm₅).trans hsm₆)
  obtain ⟨o₆, ws, ho₆, hoc₆, hod₆, _⟩ := hfl₆.first
  obtain ⟨o', ho', hdd⟩ := hd₆ e oe hoe
  rw [ho₆] at ho'
  obtain rfl := Option.some.inj ho'
  have ne₆ : g₆.get? e = none := T₆.none_ _ (kts_none F.keep hf1)
  have nd₆ : g₆.get? d = none := T₆.none_ _ (kts_none F.keep hf2)
  have heL : e ≠ L := fun q => by
    obtain ⟨o, _, _, h1, _⟩ := F.ns
    rw [← q, hf1] at h1; cases h1
  have hdL : d ≠ L := fun q => by
    obtain ⟨o, _, _, h1, _⟩ := F.ns
    rw [← q, hf2] at h1; cases h1
  have N₆ : News g₆ L h₆ [(e, o₆), (d, dob)] := List.forall_mem_cons.mpr ⟨⟨ho₆, heL, ne₆⟩, List.forall_mem_cons.mpr ⟨⟨hfl₆.1 _ _ hBd, hdL, nd₆⟩, List.forall_mem_nil _⟩⟩
  refine stN F₆ N₆ (fun h₇ F₇ N₇ => ?_) hk hlo
  exact k h₇ g₆ _ o₆ dob T₆ F₇ N₇ hoc₆ (fun c q => by rw [hod₆] at q; cases q) (hdd.trans hoed) hsd K₆ (XB.keeps K₆.stays) (TB.keeps K₆.stays)
theorem sym_got {oe dob : Obj} {expr : Bool} {Q : Value → Shared → Prop} {news : Ledger} (F : Fr g L s.heap m) (X : (hd.heap_39 w.params).In g) (N : News g L s.heap news) (h1 : (e, oe) ∈ news) (h2 : (d, dob) ∈ news) (hc : oe.cls = .ref 179) (hnc : ∀ c, oe.data ≠ .cls c) (hdd : oe.dict = some d) (hs : SymD dob)
    (hq : ∀ t, Q (.str (Str.ofString "overflow-error") t) { s with toks := s.toks + 1 }) : wpAny (model prog w) A (getAttr (.ref e) (Str.ofString "symbol") expr) Q E s := by
  have X' := X.keeps F.keep
  obtain ⟨mA, t, hO, hv⟩ := hs
  have nn : ∀ {x}, nsIn (hd.heap_39 w.params) 178 x = some none → s.heap.nsMap 178 x = none := fun q => nsMap_none_of_in X' (ls_ok w) q
  exact sym_attr PySem.F.attrBase_Exception (ls_cls X') (ls_ns X') (nn (ls_ga w)) (nn (ls_gaa w)) (nn (ls_sym w)) ex_sym (N _ h1).1 hc hnc hdd (hO.ns1 (N _ h2).1).ns hv rfl (hq t)
end
end PartMO
section PartNB
/-- a call from the law's own frame, of a def that may catch -/
def SpecX (prog : Program) (w : World) (K : Frag) (D U : Nat) (f : Addr) (args : List Value) (P : Value → Prop) : Prop :=
  ∀ (p : Program) (loose : List Str) (mean : ExcName → Option Value) (mg mb : Str → Option Value) (env : Env) (A₀ A : Around) (h₀ : Heap) (L : Addr) (m : Str → Option Value) (s : Shared) (Q E : Value → Shared → Prop) (news : Ledger),
    A.handled = none → A.frames = some [env] → A.guards = some [] → A.depth ≤ D → A.units ≤ U → env.frame = some L → env.scope.kind = .function →
    Below A₀ h₀ [] h₀ → Fr h₀ L s.heap m → K.In h₀ → News h₀ L s.heap news → Top p loose mean mg mb h₀ →
    (∀ v h' tk', P v → Fr h₀ L h' m → News h₀ L h' news → Q v { s with heap := h', toks := tk' }) →
    wpAny (model prog w) A (call (.ref f) args) Q E s
section
variable {prog : Program} {w : World} {K : Frag} {D U : Nat} {f : Addr} {args : List Value} {P : Value → Prop}
theorem specX_of {name qual : Str} {params : Arguments} {body : List Stmt} {scope : Scope} {dV kV doc pm cdv ct oc : Value} {an od : Option Addr} {osl : Array (Option Value)} {binds : List (Str × Value)}
    (ho : K.lookup f = some ⟨oc, od, .func (fnOf name qual params body scope dV kV doc pm an cdv ct), osl⟩) (hcd : codeIn K cdv qual = true)
    (hroom : D < recursionLimit) (hbind : ∀ s : Shared, K.In s.heap → BindsTo s (fnOf name qual params body scope dV kV doc pm an cdv ct) ⟨args, []⟩ binds) (hloc : ∀ y ∈ binds, scope.names.lookup y.1 = some .local)
    (hco : scope.isCoroutine = false) (hgen : scope.isGenerator = false) (hk : scope.kind = .function) (hcell : ∀ x ∈ scope.names, x.2 ≠ .cell)
    (h : ∀ (p : Program) (loose : List Str) (mean : ExcName → Option Value) (mg mb : Str → Option Value) (env : Env) (A₀ : Around) (base g : Heap) (L' : Addr) (h₁ : Heap) (s : Shared) (tk : Nat) (Q : Flow → Shared → Prop),
      Below A₀ base [env] g → Fr g L' h₁ (fun y => binds.reverse.lookup y) → K.In g → News g L' h₁ [] → Top p loose mean mg mb g → K.In base → Top p loose mean mg mb base →
      (∀ fl v g' h' tk' m', (match fl with | .ret v => v | _ => .none) = v → P v → KtsTurn (frs [env]) g g' → Fr g' L' h' m' → Q fl { s with heap := h', toks := tk' }) →
      wpAny (model prog w) { handled := none, depth := D + 1, frames := some [envOf qual scope L' f cdv, env], guards := some [], units := U + 3 } (execs body (envOf qual scope L' f cdv)) Q (fun _ _ => False) { s with heap := h₁, toks := tk }) :
    SpecX prog w K D U f args P := by
  intro p loose mean mg mb env A₀ A h₀ L m s Q E news hh hA hg hd hu hf hke B F X N T ret
  refine wpAny_call ?_
  obtain ⟨FG, BG, st, lv⟩ := groundX (R := fun r s' => match r with | .ok (.ret v) => Q v s' | .ok _ => False | .error e => E e s') B F News.nil hA hf hke
  refine codeAny_call_def (fd := fnOf name qual params body scope dV kV doc pm an cdv ct) (body := body) (binds := binds) (Nat.lt_of_le_of_lt hd hroom) ((X.keeps F.keep) _ _ ho) rfl (T.nolimit.keeps F.keep) (codeRec_of (X.keeps F.keep) hcd) rfl (hbind s (X.keeps F.keep)) hcell hloc (fun h₁ hns hk₁ => ?_) hco hgen hk
  have W := h p loose mean mg mb env A h₀ s.heap s.heap.objs.size h₁ s (s.toks + binds.length) (fun fl s' => Q (match fl with | .ret v => v | _ => .none) s') BG
    ⟨hns, fun b o e => hk₁ b o e, Nat.le_refl _⟩ (X.keeps st) News.nil (T.keeps st) X T ?_
  · refine wpAny_mono (wpAny_up W ?_ ?_ ?_ ?_ ?_) (fun fl s' q => q) (fun e s' q => q.elim)
    · exact hh
    · show A.frames.map _ = _; rw [hA]; rfl
    · exact hg
    · exact Nat.succ_le_succ hd
    · exact Nat.add_le_add_right hu 3
  · intro fl v g' h' tk' m' hv hp KT F'
    subst hv
    have nL : h₀.get? L = none := kts_self F
    have hm : ∀ b, b ≠ L → b ∉ frs [env] := fun b hb hm => by
      obtain ⟨e', he', hfe⟩ := List.mem_filterMap.mp hm
      rw [List.mem_singleton.mp he', hf] at hfe
      exact hb (Option.some.inj hfe).symm
    obtain ⟨oL, es, ep, hoL, hLd, r⟩ := F.ns
    obtain ⟨sl, hsl⟩ := KT.up hoL
    refine ret _ h' tk' hp ⟨⟨_, es, ep, F'.keep _ _ hsl, hLd, r⟩, fun b o q => F'.keep _ _ (KT.other b o (F.keep b o q) (hm b fun z => by rw [z, nL] at q; cases q)), F.above⟩ fun q hq => ?_
    exact ⟨F'.keep _ _ (KT.other _ _ (N q hq).1 (hm _ (N q hq).2.1)), (N q hq).2⟩
end
theorem specR_raw {prog : Program} {w : World} {K : Frag} {D U : Nat} {f : Addr} {args : List Value} {nn : Ledger} {p : Program} {loose : List Str} {mean : ExcName → Option Value} {mg mb : Str → Option Value} {env : Env} {outer : List Env} {A₀ A : Around} {base h₀ : Heap} {L : Addr} {m : Str → Option Value} {s : Shared} {Q E : Value → Shared → Prop} {news : Ledger}
    (S : SpecR prog w K D U f args nn) (hh : A.handled = none) (hA : A.frames = some (env :: outer)) (hg : A.guards = some []) (hd : A.depth ≤ D) (hu : A.units ≤ U) (hf : env.frame = some L) (hke : env.scope.kind = .function)
    (B : Below A₀ base outer h₀) (F : Fr h₀ L s.heap m) (X : K.In h₀) (N : News h₀ L s.heap news) (T : Top p loose mean mg mb h₀) (hn : ∀ q ∈ nn, q ∈ news)
    (rai : ∀ G e d h' tk', Fr h₀ L G m → Flown G (env :: outer) e d h' → E (.ref e) { s with heap := h', toks := tk' }) : wpAny (model prog w) A (call (.ref f) args) Q E s :=
  S p loose mean mg mb env outer A₀ A base h₀ L m s Q E hh hA hg hd hu hf hke B F X (fun q hq => N q (hn q hq)) T fun e d h' tk' R =>
    rai _ e d h' tk' (groundX (R := fun _ _ => True) B F (fun q hq => N q (hn q hq)) hA hf hke).1 R
theorem word_33 : True := by
  k_with_none
  (k_with "my e0" => (((case ho | hcd => k_is); (case hr => decide); (case hb => first | exact fun s X => BindsTo.of_eq rfl | exact fun s X => binds_K X rfl (by k_is) rfl rfl rfl); (case hl => exact locs rfl); (case c1 | c2 | c3 => exact rfl); (case c4 => decide))))
  (k_with "my enter" => ((k_dflt (refine' spec_of ?ho ?hcd ?hr ?hb ?hl ?c1 ?c2 ?c3 ?c4 ?_; k_extra "my e0"))))
  (k_with "my enterR" => ((k_dflt (refine' specR_of ?ho ?hcd ?hr ?hb ?hl ?c1 ?c2 ?c3 ?c4 ?_; k_extra "my e0"))))
  (k_with "my rst" => (first | exact Rst.nil | exact Rst.all (fun _ _ => List.not_mem_nil) | exact Rst.all hown9 | (refine' Rst.drop ?ra ?rb; (case ra => k_extra "my in"); (case rb => k_extra "my rst")) | (refine' Rst.keep ?ra ?rb; (case ra => k_extra "my notin"); (case rb => k_extra "my rst"))))
  (k_with "my c1" => (((case a1 | a2 | a3 => exact rfl); (case a4 | a5 => exact Nat.le_of_ble_eq_true rfl))))
  (k_with "my c2" => (((case a7 => first | exact rfl | assumption); (case B | F | X | N | T => k_asm))))
  (k_with "my c4" => ((k_extra "my c1"; (case a6 => exact rfl); k_extra "my c2")))
  (k_with "my c3" => (((case hn => k_extra "my mem"); (case has => exact rfl); (case hr => k_extra "my rst"))))
  (k_with "eval Constant int" => ((refine wpAny_Constant_int ?_; (try dsimp only))))
  (k_with "evalPairs" => ((first | (refine pairTrees_cons_walk ?_; (try dsimp only)) | (refine pairTrees_nil_walk ?_; (try dsimp only)))))
  (k_with "my mem" => (first | exact List.forall_mem_nil _ | (refine' List.forall_mem_cons.mpr ⟨?ma, ?mb⟩; (case ma => k_mem); (case mb => k_extra "my mem"))))
  (k_with "my notin" => (first | exact List.not_mem_nil | (refine' notin_cons ?na ?nb; (case na => ((try dsimp only); first | k_extra "my ne" | omega)); (case nb => k_extra "my notin"))))
  (k_with "my in" => (first | exact List.Mem.head _ | (refine' List.Mem.tail _ ?_; k_extra "my in")))
  (k_with "my post" => (((try k_sweep); (try dsimp only); (try k_fold))))
  (k_with "my pre" => ((first | omega | (simp only [bne_iff_ne, ne_eq, beq_iff_eq, decide_eq_true_eq, Bool.not_eq_true'] ; omega))))
  (k_with "ite" => (first | (k_openite; goal_has Mine.codeAt; first | (refine ite_pos (by k_extra "my pre") ?_; walk_say "MINE") | (refine ite_neg (by k_extra "my pre") ?_; walk_say "MINE")) | (k_closed; first | (refine ite_pos (by decide) ?_; walk_say "MINEC") | (refine ite_neg (by decide) ?_; walk_say "MINEC"))))
  (k_with "WhlIf" => ((goal_has Mine.codeAt; first | (refine WhlIf.yes (by (simp only [bne_iff_ne, ne_eq, beq_iff_eq, decide_eq_true_eq, Bool.not_eq_true', Bool.and_eq_true] ; omega)) ?_; walk_say "MINE") | (refine WhlIf.no (by (simp only [bne_eq_false_iff_eq, beq_eq_false_iff_ne, ne_eq, decide_eq_false_iff_not, Bool.and_eq_false_iff] ; omega)) ?_; walk_say "MINE"))))
  trivial
open LCg
theorem word_34 : True := by
  (k_with "call ref" => ((k_here; (with_reducible show wpAny _ _ (call (Value.ref 288) _) _ _ _); k_dflt ((show wpAny _ _ (call (Value.ref 288) [Value.ref _]) _ _ _); refine' specR_raw (S ?h0 ?h4 ?h5 ?h6) ?a1 ?a2 ?a3 ?a4 ?a5 ?a6 ?a7 ?B ?F ?X ?N ?T ?hn ?_; (case a1 => exact rfl); (case a2 => exact rfl); (case a3 => exact rfl); (case a4 => exact Nat.le_of_ble_eq_true rfl); (case a5 => exact Nat.le_of_ble_eq_true rfl); (case a6 => exact rfl); (case a7 => first | exact rfl | assumption); (case B => k_asm); (case F => k_asm); (case X => k_asm); (case N => k_asm); (case T => k_asm); (case hn => k_extra "my mem"); (case h0 => assumption); (case h4 => first | assumption | omega); (case h5 => first | assumption | omega); (case h6 => first | assumption | omega); k_whole; intro G9 e9 d9 h9 tk9 F9 R9; (try k_sweep); (try dsimp only); refine' caught_mine ?b1 ?b2 ?b3 ?b4 ?b5 ?b6 ?b7 ?_ ?b8 ?b9 ?b10 ?b11; (case b1 => exact rfl); (case b2 => k_asm); (case b3 => exact F9); (case b4 => exact R9); (case b5 => exact XB); (case b6 => exact TB); (case b7 => k_is); (case b8 => exact rfl); (case b9 => exact rfl); (case b10 => exact rfl); (case b11 => decide); clear F9 R9; intro h8 g8 tk8 oe dob KT F8 N8 hc8 hnc8 hdd8 hs8 B8 X8 T8; (try k_sweep)))))
  (k_with "getAttr ref" => ((k_here; k_dflt (refine' sym_got ?F ?X ?N (.head _) (.tail _ (.head _)) hc8 hnc8 hdd8 hs8 ?_; (case F => k_asm); (case X => k_asm); (case N => k_asm); k_whole; intro t8))))
  (k_with "my enterX" => ((k_dflt (refine' specX_of ?ho ?hcd ?hr ?hb ?hl ?c1 ?c2 ?c3 ?c4 ?_; k_extra "my e0"))))
  (k_with "eval ListComp" => ((k_here; k_dflt (refine ListComp_tx' (_F₀ := by k_asm) (by with_unfolding_all rfl) (by decide) (by rfl) (by decide) (by rfl) ?_))))
  trivial
set_option maxRecDepth 100000 in
set_option maxHeartbeats 1500000 in
theorem heardX_spec {prog : Program} {w : World} {l : List Int} {t : Tok} (h0 : ∀ x ∈ l, 0 ≤ x ∧ x < 128) (hfit : l.length ≤ 100000)
    (S : ∀ {x dx Cd : Addr} {vs : List Value} {nC : Nat} {t1 t2 t3 : Tok}, IntsAre vs l → @Ne Nat x dx → @Ne Nat x Cd → @Ne Nat dx Cd → SpecR prog w (hd.heap_39 w.params) 610 6100 288 [.ref x] (tokL w x dx Cd vs nC 0 t1 t2 t3)) :
    SpecX prog w (hd.heap_39 w.params) 605 6050 373 [.str (KStt.txt l) t] (fun v => ∃ t, v = .str (Str.ofString "overflow-error") t) := by
  k_extra "my enterX"
  intro pr loose mean mg mb env A₀ base g L' h₁ s tk Q B F X N T XB TB ret
  have hln := txt_len l
  k_steps
  refine tx_src rfl F N hfit ?turn ?fin
  case turn =>
    intro c t' I oI C oC D m₂ ys h tk' E' hc hC hx F' N' off ne
    have hc' := h0 c hc
    clear F N
    k_steps
    exact congrArg (Value.int · _) (Int.toNat_of_nonneg hc'.1)
  case fin =>
    intro g' ys hys D h tk' F' N' o1
    clear F N
    have hyl := hys.length
    k_steps
    exact ret _ _ g8 _ _ _ rfl ⟨_, rfl⟩ KT (by assumption)
end PartNB
section PartNC
section
variable {prog : Program} {w : World} {K : Frag} {D U : Nat} {f : Addr} {args : List Value} {nn : Ledger} {Post : Value → Ledger → Prop}
theorem spec_ofC {name qual : Str} {params : Arguments} {body : List Stmt} {scope : Scope} {dV kV doc pm cdv ct oc : Value} {an od : Option Addr} {osl : Array (Option Value)} {binds : List (Str × Value)}
    (ho : K.lookup f = some ⟨oc, od, .func (fnOf name qual params body scope dV kV doc pm an cdv ct), osl⟩) (hcd : codeIn K cdv qual = true)
    (hroom : D < recursionLimit) (hbind : ∀ s : Shared, K.In s.heap → BindsTo s (fnOf name qual params body scope dV kV doc pm an cdv ct) ⟨args, []⟩ binds)
    (hkind : ∀ n, ∀ x ∈ binds, scope.names.lookup x.1 = some .local ∨ (scope.names.lookup x.1 = some .cell ∧ ((cellsFrom n scope.names []).lookup x.1).isSome = true))
    (hnd : ((cellsFrom 0 scope.names []).map (·.1)).Nodup) (hco : scope.isCoroutine = false) (hgen : scope.isGenerator = false) (hk : scope.kind = .function)
    (h : ∀ (p : Program) (loose : List Str) (mean : ExcName → Option Value) (mg mb : Str → Option Value) (outer : List Env) (A₀ : Around) (base g : Heap) (L' : Addr) (h₁ : Heap) (s : Shared) (tk : Nat) (cells : Ledger) (Q : Flow → Shared → Prop),
      Below A₀ base outer g → Fr g L' h₁ (bindL (envOfC qual scope L' f cdv).kindOf binds fun _ => none) → K.In g → News g L' h₁ (cells ++ nn) → CellsAre (bindC (envOfC qual scope L' f cdv).kindOf binds fun _ => none) (cellsFrom (L' + 1) scope.names []) cells → Top p loose mean mg mb g → (∀ q ∈ nn, q.1 < L') →
      (∀ fl v nn' h' tk' m', (match fl with | .ret v => v | _ => .none) = v → Post v nn' → Fr g L' h' m' → News g L' h' nn' → Q fl { s with heap := h', toks := tk' }) →
      wpAny (model prog w) { handled := none, depth := D + 1, frames := some (envOfC qual scope L' f cdv :: outer), guards := some [], units := U + 3 } (execs body (envOfC qual scope L' f cdv)) Q (fun _ _ => False) { s with heap := h₁, toks := tk }) :
    Spec prog w K D U f args nn Post := by
  intro p loose mean mg mb env outer A₀ A base h₀ L m s Q E hh hA hg hd hu hf hke B F X N T ret
  refine wpAny_call ?_
  obtain ⟨FG, BG, st, lv⟩ := groundX (R := fun r s' => match r with | .ok (.ret v) => Q v s' | .ok _ => False | .error e => E e s') B F N hA hf hke
  refine codeAny_call_function (Nat.lt_of_le_of_lt hd hroom) ((X.keeps F.keep) _ _ ho) rfl hco hgen rfl (codeRec_of (X.keeps F.keep) hcd) ((hbind s (X.keeps F.keep)) _ _ _ _ ?_)
  refine wpAny_newFunctionEnv_cells hk (hkind _) fun env' he s' x => ?_
  subst he
  refine ⟨(T.nolimit.keeps F.keep).keeps x.toInCall.keep, codeAny_func ?_⟩
  obtain ⟨h₁, tk, rfl, _⟩ := x.done
  have hk₁ := x.toInCall.keep
  obtain ⟨cells, NC, Y⟩ := Cl.news (h₀ := s.heap) (Nat.le_refl _) fun n c hm => ⟨x.cell n c (lookup_of_mem_nodup (cellsFrom_names scope.names 0 (s.heap.objs.size + 1) [] [] rfl ▸ hnd) hm), x.above n c hm⟩
  have W := h p loose mean mg mb (env :: outer) A base _ s.heap.objs.size h₁ s tk cells (fun fl s' => Q (match fl with | .ret v => v | _ => .none) s') BG
    ⟨x.toInCall.ns, fun b o e => hk₁ b o (of_hideAll _ e), Nat.le_of_eq (hideAll_size _ _)⟩ (X.keeps st) (fun p hp => ?_) Y (T.keeps st) (fun p hp => Heap.lt_size (N p hp).1) ?_
  · refine wpAny_mono (wpAny_up W ?_ ?_ ?_ ?_ ?_) (fun fl s' q => q) (fun e s' q => q.elim)
    · exact hh
    · show A.frames.map _ = _; rw [hA]; rfl
    · exact hg
    · exact Nat.succ_le_succ hd
    · exact Nat.add_le_add_right hu 3
  · rcases List.mem_append.mp hp with hp | hp
    · refine ⟨(NC p hp).1, (NC p hp).2.1, ?_⟩
      cases q : (hideAll s.heap (nn.map (·.1))).get? p.1 with
      | none => rfl
      | some o => have := of_hideAll _ q; rw [(NC p hp).2.2] at this; cases this
    · exact ⟨hk₁ _ _ (N p hp).1, Nat.ne_of_lt (Heap.lt_size (N p hp).1), hideAll_none _ (List.mem_map_of_mem hp)⟩
  · intro fl v nn' h' tk' m' hv hp F' N'
    have back := lv v { s with heap := h', toks := tk' } ⟨_, m', nn', F', N', fun kF kN => ?_⟩
    · rw [hv]; exact back
    · refine ret v nn' h' tk' hp kF kN (fun b o hb hn => F'.keep b o (hideAll_get _ hb hn)) fun q hq => ?_
      by_cases hm : q.1 ∈ nn.map (·.1)
      · exact .inl hm
      · refine .inr ?_
        cases e : s.heap.get? q.1 with
        | none => rfl
        | some o =>
          have := (N' q hq).2.2
          rw [hideAll_get _ e hm] at this
          cases this
end
end PartNC
section PartNF
theorem word_35 : True := by
  k_with_none
  (k_with "my e0" => (((case ho | hcd => k_is); (case hr => decide); (case hb => first | exact fun s X => BindsTo.of_eq rfl | exact fun s X => binds_K X rfl (by k_is) rfl rfl rfl); (case hl => exact locs rfl); (case c1 | c2 | c3 => exact rfl); (case c4 => decide))))
  (k_with "my enter" => ((k_dflt (refine' spec_of ?ho ?hcd ?hr ?hb ?hl ?c1 ?c2 ?c3 ?c4 ?_; k_extra "my e0"))))
  (k_with "my enterR" => ((k_dflt (refine' specR_of ?ho ?hcd ?hr ?hb ?hl ?c1 ?c2 ?c3 ?c4 ?_; k_extra "my e0"))))
  (k_with "my rst" => (first | exact Rst.nil | exact Rst.all (fun _ _ => List.not_mem_nil) | exact Rst.all hown9 | (refine' Rst.drop ?ra ?rb; (case ra => k_extra "my in"); (case rb => k_extra "my rst")) | (refine' Rst.keep ?ra ?rb; (case ra => k_extra "my notin"); (case rb => k_extra "my rst"))))
  (k_with "my c1" => (((case a1 | a2 | a3 => exact rfl); (case a4 | a5 => exact Nat.le_of_ble_eq_true rfl))))
  (k_with "my c2" => (((case a7 => first | exact rfl | assumption); (case B | F | X | N | T => k_asm))))
  (k_with "my c4" => ((k_extra "my c1"; (case a6 => exact rfl); k_extra "my c2")))
  (k_with "my c3" => (((case hn => k_extra "my mem"); (case has => exact rfl); (case hr => k_extra "my rst"))))
  (k_with "eval Constant int" => ((refine wpAny_Constant_int ?_; (try dsimp only))))
  (k_with "evalPairs" => ((first | (refine pairTrees_cons_walk ?_; (try dsimp only)) | (refine pairTrees_nil_walk ?_; (try dsimp only)))))
  (k_with "my mem" => (first | exact List.forall_mem_nil _ | (refine' List.forall_mem_cons.mpr ⟨?ma, ?mb⟩; (case ma => k_mem); (case mb => k_extra "my mem"))))
  (k_with "my notin" => (first | exact List.not_mem_nil | (refine' notin_cons ?na ?nb; (case na => ((try dsimp only); first | k_extra "my ne" | omega)); (case nb => k_extra "my notin"))))
  (k_with "my in" => (first | exact List.Mem.head _ | (refine' List.Mem.tail _ ?_; k_extra "my in")))
  (k_with "my post" => (((try k_sweep); (try dsimp only); (try k_fold))))
  (k_with "my pre" => ((first | omega | (simp only [bne_iff_ne, ne_eq, beq_iff_eq, decide_eq_true_eq, Bool.not_eq_true'] ; omega))))
  (k_with "ite" => (first | (k_openite; goal_has Mine.codeAt; first | (refine ite_pos (by k_extra "my pre") ?_; walk_say "MINE") | (refine ite_neg (by k_extra "my pre") ?_; walk_say "MINE")) | (k_closed; first | (refine ite_pos (by decide) ?_; walk_say "MINEC") | (refine ite_neg (by decide) ?_; walk_say "MINEC"))))
  (k_with "WhlIf" => ((goal_has Mine.codeAt; first | (refine WhlIf.yes (by (simp only [bne_iff_ne, ne_eq, beq_iff_eq, decide_eq_true_eq, Bool.not_eq_true', Bool.and_eq_true] ; omega)) ?_; walk_say "MINE") | (refine WhlIf.no (by (simp only [bne_eq_false_iff_eq, beq_eq_false_iff_ne, ne_eq, decide_eq_false_iff_not, Bool.and_eq_false_iff] ; omega)) ?_; walk_say "MINE"))))
  trivial
open LCg
def FigOk (radix : Int) (figs : List Int) : Prop :=
  (radix = 16 ∧ ∃ (x : Int) (d : Nat), (x = 15 ∨ x = 1 ∨ x = 3) ∧ d < 3 ∧ figs = x :: List.replicate (16382 + d) 15) ∨
  ((radix = 2 ∨ radix = 8 ∨ radix = 16 ∨ radix = 10 ∨ radix = 36) ∧ 1 ≤ figs.length ∧ figs.length ≤ 9 ∧ ∀ f ∈ figs, 0 ≤ f ∧ f < radix)
abbrev figT (radix : Int) (tr : Tok) (G : Addr) (k : Nat) : Obj := { cls := .type "tuple", data := .seq #[.int radix tr, .ref G] k }
def FigPost (C D : Addr) (v : Value) (nn' : Ledger) : Prop :=
  ∃ (T G : Addr) (radix : Int) (tr : Tok) (figs : List Int) (fs : List Value) (nG k : Nat) (vs' : List Value) (cs' : List Int) (nC' : Nat) (mm' : Int) (t' : Tok) (nD' : Nat), v = .ref T ∧
    nn' = [(T, figT radix tr G k), (G, listOf fs.toArray nG), (C, listOf vs'.toArray nC'), (D, listOf #[.ref C, .int mm' t'] nD')] ∧
    (@Ne Nat G C ∧ @Ne Nat G D) ∧ IntsAre fs figs ∧ FigOk radix figs ∧ IntsAre vs' cs' ∧ DeckOk cs' mm'
theorem flat_rep (n : Nat) (a : Int) : (List.replicate n [a]).flatten = List.replicate n a := by
  induction n with
  | zero => rfl
  | succ n ih => rw [List.replicate_succ, List.flatten_cons, ih, List.replicate_succ]; rfl
theorem fig_wide {C D T G : Addr} {tk : Tok} {nG k : Nat} {ws vs : List Value} {cs : List Int} {nC : Nat} {mm x y : Int} {t : Tok} {nD : Nat} (hI : IntsAre ws ([([15, 1, 3] : List Int).getD x.toNat 0] ++ (List.replicate (16382 + y).toNat [15]).flatten)) (hx0 : 0 ≤ x) (hx1 : x < 3) (hy0 : 0 ≤ y) (hy1 : y < 3) (hi : IntsAre vs cs) (hok : DeckOk cs mm) (g1 : @Ne Nat G C) (g2 : @Ne Nat G D) :
    FigPost C D (.ref T) [(T, figT 16 tk G k), (G, listOf ws.toArray nG), (C, listOf vs.toArray nC), (D, listOf #[.ref C, .int mm t] nD)] := by
  refine ⟨T, G, 16, tk, _, ws, nG, k, vs, cs, nC, mm, t, nD, rfl, rfl, ⟨g1, g2⟩, hI, .inl ⟨rfl, ([15, 1, 3] : List Int).getD x.toNat 0, y.toNat, ?_, by omega, ?_⟩, hi, hok⟩
  · have : x = 0 ∨ x = 1 ∨ x = 2 := by omega
    rcases this with rfl | rfl | rfl <;> decide
  · rw [flat_rep, show (16382 + y).toNat = 16382 + y.toNat by omega]
    rfl
theorem fig_small {C D T G : Addr} {tk : Tok} {nG k : Nat} {ws vs : List Value} {figs cs : List Int} {nC : Nat} {mm y radix : Int} {t : Tok} {nD : Nat} (hy7 : IntsAre ws figs) (hl : figs.length = (1 + y - 0).toNat) (hr : radix = 2 ∨ radix = 8 ∨ radix = 16 ∨ radix = 10 ∨ radix = 36) (hf : ∀ f ∈ figs, 0 ≤ f ∧ f < radix) (hy0 : 0 ≤ y) (hy1 : y < 9) (hi : IntsAre vs cs) (hok : DeckOk cs mm) (g1 : @Ne Nat G C) (g2 : @Ne Nat G D) :
    FigPost C D (.ref T) [(T, figT radix tk G k), (G, listOf ws.toArray nG), (C, listOf vs.toArray nC), (D, listOf #[.ref C, .int mm t] nD)] :=
  ⟨T, G, radix, tk, figs, ws, nG, k, vs, cs, nC, mm, t, nD, rfl, rfl, ⟨g1, g2⟩, hy7, .inr ⟨hr, by omega, by omega, hf⟩, hi, hok⟩
def DrEl (C D : Addr) (radix : Int) (rest : Ledger) (y : Value) (news' : Ledger) : Prop :=
  ∃ (c : Int) (tc : Tok) (vs : List Value) (cs : List Int) (nC : Nat) (mm : Int) (t : Tok) (nD : Nat), y = .int c tc ∧ 0 ≤ c ∧ c < radix ∧ IntsAre vs cs ∧ DeckOk cs mm ∧ news' = (C, listOf vs.toArray nC) :: (D, listOf #[.ref C, .int mm t] nD) :: rest
theorem dr_el {C D : Addr} {radix : Int} {rest : Ledger} {c : Int} {tc : Tok} {vs : List Value} {cs : List Int} {nC : Nat} {mm : Int} {t : Tok} {nD : Nat} (h0 : 0 ≤ c) (h1 : c < radix) (hi : IntsAre vs cs) (hok : DeckOk cs mm) :
    DrEl C D radix rest (.int c tc) ((C, listOf vs.toArray nC) :: (D, listOf #[.ref C, .int mm t] nD) :: rest) := ⟨c, tc, vs, cs, nC, mm, t, nD, rfl, h0, h1, hi, hok, rfl⟩
section
variable {prog : Program} {w : World} {A : Around} {s : Shared} {h₀ : Heap} {L : Addr} {m : Str → Option Value} {env : Env} {elt : Expr} {x : Str} {scope : Scope} {cl : List (Str × Addr)} {Fin : List Value → Ledger → Prop} {C D : Addr} {rest : Ledger}
theorem dr_rest {radix : Int} {n : Nat} {P : Nat → Value → Prop} {vs : List Value} {cs : List Int} {nC : Nat} {mm : Int} {t : Tok} {nD : Nat} (hi : IntsAre vs cs) (hok : DeckOk cs mm)
    (turn : ∀ (vs : List Value) (cs : List Int) (nC : Nat) (mm : Int) (t : Tok) (nD : Nat) I oI Cc oC Dd m₂ ys h tk (E' : Value → Shared → Prop), IntsAre vs cs → DeckOk cs mm → NsObj oC m₂ → Fr h₀ L h m → News h₀ L h ((I, oI) :: (Cc, oC) :: (Dd, lst ys) :: (C, listOf vs.toArray nC) :: (D, listOf #[.ref C, .int mm t] nD) :: rest) → Off3 I Cc Dd ((C, listOf vs.toArray nC) :: (D, listOf #[.ref C, .int mm t] nD) :: rest) → ((@Ne Nat I Cc) ∧ (@Ne Nat I Dd) ∧ (@Ne Nat Cc Dd)) →
      wpAny (model prog w) A (eval elt (compEnvC scope cl Cc env)) (CompEnd h₀ L m { s with heap := h, toks := tk } I oI Cc oC Dd (lst ys) (fun _ => True) (DrEl C D radix rest)) E' { s with heap := h, toks := tk })
    (fin : ∀ (ys : List Value) (figs : List Int) (vs : List Value) (cs : List Int) (nC : Nat) (mm : Int) (t : Tok) (nD : Nat), IntsAre ys figs → figs.length = n → (∀ f ∈ figs, 0 ≤ f ∧ f < radix) → IntsAre vs cs → DeckOk cs mm → Fin ys ((C, listOf vs.toArray nC) :: (D, listOf #[.ref C, .int mm t] nD) :: rest)) :
    CompRest prog w A h₀ L m env elt x scope cl s (fun _ => True) P Fin n 0 [] ((C, listOf vs.toArray nC) :: (D, listOf #[.ref C, .int mm t] nD) :: rest) := by
  have key : ∀ (j : Nat) (i : Nat) (ys : List Value) (figs : List Int) (vs : List Value) (cs : List Int) (nC : Nat) (mm : Int) (t : Tok) (nD : Nat), figs.length + j = n → IntsAre ys figs → (∀ f ∈ figs, 0 ≤ f ∧ f < radix) → IntsAre vs cs → DeckOk cs mm →
      CompRest prog w A h₀ L m env elt x scope cl s (fun _ => True) P Fin j i ys ((C, listOf vs.toArray nC) :: (D, listOf #[.ref C, .int mm t] nD) :: rest) := by
    intro j
    induction j with
    | zero =>
      intro i ys figs vs cs nC mm t nD hl hy hf hi hok
      exact CompRest.zero (fin ys figs vs cs nC mm t nD hy hl hf hi hok)
    | succ j ih =>
      intro i ys figs vs cs nC mm t nD hl hy hf hi hok
      refine CompRest.succ ?_
      intro v I oI Cc oC Dd m₂ h tk E' _ hC _ F N off ne
      refine wpAny_mono (turn vs cs nC mm t nD I oI Cc oC Dd m₂ ys h tk E' hi hok hC F N off ne) (fun y s₂ hq => ?_) fun _ _ e => e
      obtain ⟨h', tk', nw, e, F', N', off', hS, c, tc, vs', cs', nC', mm', t', nD', hy', h0, h1, hi', hok', hn⟩ := hq
      refine ⟨h', tk', nw, e, F', N', off', hS, ?_⟩
      rw [hy', hn]
      exact ih (i + 1) _ (figs ++ [c]) vs' cs' nC' mm' t' nD' (by rw [List.length_append, List.length_singleton]; omega) (ints_snoc hy) (fun f hm => by
        rcases List.mem_append.mp hm with hm | hm
        · exact hf f hm
        · rw [List.mem_singleton.mp hm]; exact ⟨h0, h1⟩) hi' hok'
  exact key n 0 [] [] vs cs nC mm t nD (by simp) .nil (fun _ h => nomatch h) hi hok
end
theorem radix_of {x : Int} (h0 : 0 ≤ x) (h1 : x < 5) : ([2, 8, 16, 10, 36] : List Int).getD x.toNat 0 = 2 ∨ ([2, 8, 16, 10, 36] : List Int).getD x.toNat 0 = 8 ∨ ([2, 8, 16, 10, 36] : List Int).getD x.toNat 0 = 16 ∨ ([2, 8, 16, 10, 36] : List Int).getD x.toNat 0 = 10 ∨ ([2, 8, 16, 10, 36] : List Int).getD x.toNat 0 = 36 := by
  have : x = 0 ∨ x = 1 ∨ x = 2 ∨ x = 3 ∨ x = 4 := by omega
  rcases this with rfl | rfl | rfl | rfl | rfl <;> decide
theorem dr_rest5 {prog : Program} {w : World} {A : Around} {s : Shared} {h₀ : Heap} {L : Addr} {m : Str → Option Value} {env : Env} {elt : Expr} {x : Str} {scope : Scope} {cl : List (Str × Addr)} {Fin : List Value → Ledger → Prop} {C D : Addr} {rest : Ledger} {xr : Int} {n : Nat} {P : Nat → Value → Prop} {vs : List Value} {cs : List Int} {nC : Nat} {mm : Int} {t : Tok} {nD : Nat} (h5 : xr < 5) (h0 : 0 ≤ xr) (hi : IntsAre vs cs) (hok : DeckOk cs mm)
    (turn : ∀ (vs : List Value) (cs : List Int) (nC : Nat) (mm : Int) (t : Tok) (nD : Nat) I oI Cc oC Dd m₂ ys h tk (E' : Value → Shared → Prop), 1 ≤ ([2, 8, 16, 10, 36] : List Int).getD xr.toNat 0 → ([2, 8, 16, 10, 36] : List Int).getD xr.toNat 0 ≤ 36 → IntsAre vs cs → DeckOk cs mm → NsObj oC m₂ → Fr h₀ L h m → News h₀ L h ((I, oI) :: (Cc, oC) :: (Dd, lst ys) :: (C, listOf vs.toArray nC) :: (D, listOf #[.ref C, .int mm t] nD) :: rest) → Off3 I Cc Dd ((C, listOf vs.toArray nC) :: (D, listOf #[.ref C, .int mm t] nD) :: rest) → ((@Ne Nat I Cc) ∧ (@Ne Nat I Dd) ∧ (@Ne Nat Cc Dd)) →
      wpAny (model prog w) A (eval elt (compEnvC scope cl Cc env)) (CompEnd h₀ L m { s with heap := h, toks := tk } I oI Cc oC Dd (lst ys) (fun _ => True) (DrEl C D (([2, 8, 16, 10, 36] : List Int).getD xr.toNat 0) rest)) E' { s with heap := h, toks := tk })
    (fin : ∀ (ys : List Value) (figs : List Int) (vs : List Value) (cs : List Int) (nC : Nat) (mm : Int) (t : Tok) (nD : Nat), IntsAre ys figs → figs.length = n → (∀ f ∈ figs, 0 ≤ f ∧ f < ([2, 8, 16, 10, 36] : List Int).getD xr.toNat 0) → IntsAre vs cs → DeckOk cs mm → Fin ys ((C, listOf vs.toArray nC) :: (D, listOf #[.ref C, .int mm t] nD) :: rest)) :
    CompRest prog w A h₀ L m env elt x scope cl s (fun _ => True) P Fin n 0 [] ((C, listOf vs.toArray nC) :: (D, listOf #[.ref C, .int mm t] nD) :: rest) := by
  have hr := radix_of h0 h5
  exact dr_rest hi hok (fun vs cs nC mm t nD I oI Cc oC Dd m₂ ys h tk E' => turn vs cs nC mm t nD I oI Cc oC Dd m₂ ys h tk E' (by omega) (by omega)) fin
theorem word_36 : True := by
  (k_with "call ref" => ((k_here; first | ((with_reducible show wpAny _ _ (call (Value.ref 356) _) _ _ _); k_dflt ((show wpAny _ _ (call (Value.ref 356) [Value.ref _, Value.int _ _]) _ _ _); refine' spec_use' (draw_spec ?p0 ?hi ?hok ?h1 ?h2) ?a1 ?a2 ?a3 ?a4 ?a5 ?a6 ?a7 ?B ?F ?X ?N ?T ?hn ?has ?hr ?_; k_extra "my c4"; (case p0 => assumption); k_extra "my c3"; (case hi | hok => assumption); (case h1 | h2 => omega); k_whole; intro v9 nn9 h9 tk9 hP9 F9 N9 fr9; (obtain ⟨x9, tx9, vs9, cs9, nC9, mm9, tt9, nD9, rfl, rfl, hx0, hx1, hi9, hok9⟩ := hP9); (simp only [List.cons_append, List.nil_append] at N9); k_extra "my post")))))
  (k_with "my ne" => (with_reducible first | exact off'.1.1 | exact Ne.symm off'.1.1 | exact off'.1.2.1 | exact Ne.symm off'.1.2.1 | exact off'.1.2.2 | exact Ne.symm off'.1.2.2 | exact off'.2.1.1 | exact Ne.symm off'.2.1.1 | exact off'.2.1.2.1 | exact Ne.symm off'.2.1.2.1 | exact off'.2.1.2.2 | exact Ne.symm off'.2.1.2.2))
  (k_with "CompSrc" => ((k_here; (try k_fmods); (try kcf_lens); k_dflt ( refine LCg.CompSrc.range (by rfl) (by k_asm) (by k_asm) (by assumption) (by first | exact small_one (by kcf_bnd) (by kcf_bnd) (by kcf_bnd) (by kcf_bnd) | decide) (by first | exact rangeSize_nat _ _ | rfl) (by rw [PySem.sizeLine_eq]; omega) ?_; intro g'; refine' dr_rest5 (C := C) (D := D) ?zq5 ?zq0 ?zqi ?zqo ?zqt ?zqn; (case zq5 => assumption); (case zq0 => assumption); (case zqi => assumption); (case zqo => assumption); (case' zqt => (intro vs7 cs7 nC7 mm7 tt7 nD7 I' oI' C' oC' D' m' ys' h' tk' E' hr1 hr36 hi7 hok7 hC' F' N' off' ne'; (simp only [LCg.Off3, and_true] at off'); (try k_fold))); (case' zqn => (intro ys7 figs7 vs7 cs7 nC7 mm7 tt7 nD7 hy7 hl7 hf7 hi7 hok7; (try k_fold)))))))
  (k_with "DrEl" => ((k_dflt (refine dr_el ?_ ?_ ?_ ?_ <;> assumption))))
  (k_with "my enterC" => ((k_dflt ( (case ho => k_is); (case hcd => k_is); (case hr => decide); (case hb => first | exact fun s X => BindsTo.of_eq rfl | exact fun s X => binds_K X rfl (by k_is) rfl rfl rfl); (case hkk => (intro n x hx; rw [List.mem_singleton.mp hx]; exact .inr ⟨rfl, rfl⟩)); (case hnd => decide +kernel); (case c1 => exact rfl); (case c2 => exact rfl); (case c3 => exact rfl)))))
  trivial
set_option maxRecDepth 100000 in
set_option maxHeartbeats 1500000 in
theorem figures_spec {prog : Program} {w : World} {C D : Addr} {vs : List Value} {cs : List Int} {nC : Nat} {mm : Int} {t : Tok} {nD : Nat} (hne : C ≠ D) (hi : IntsAre vs cs) (hok : DeckOk cs mm) :
    Spec prog w (hd.heap_39 w.params) 590 5900 368 [.ref D] [(C, listOf vs.toArray nC), (D, listOf #[.ref C, .int mm t] nD)] (FigPost C D) := by
  refine' spec_ofC (binds := [(Str.ofString "_law_deck_here", .ref D)]) ?ho ?hcd ?hr ?hb ?hkk ?hnd ?c1 ?c2 ?c3 ?_
  k_extra "my enterC"
  intro pr loose mean mg mb outer A₀ base g L' h₁ s tk cells Q B F X N Y T lt ret
  k_cells Y
  simp only [List.cons_append, List.nil_append] at N
  (try dsimp only)
  k_lt lt
  have hrx := @radix_of
  k_steps
  · refine ret _ _ _ _ _ _ rfl (fig_wide (by assumption) (by assumption) (by assumption) hx0 hx1 hi9 hok9 ?zg1 ?zg2) (by assumption) (cb_drop (by assumption) (by k_extra "my mem"))
    all_goals omega
  · refine ret _ _ _ _ _ _ rfl (fig_small hy7 hl7 (radix_of (by assumption) (by assumption)) hf7 (by assumption) (by assumption) hi7 hok7 ?zg3 ?zg4) (by assumption) (cb_drop (by assumption) (by k_extra "my mem"))
    all_goals omega
  · exact dr_el hx0 hx1 hi9 hok9
end PartNF
section PartNG
open LCg LCt
section
variable {prog : Program} {w : World} {A : Around} {s : Shared} {h₀ : Heap} {L : Addr} {m : Str → Option Value} {env : Env} {ct elt : Expr} {x : Str} {scope : Scope} {cl : List (Str × Addr)} {S : Ledger → Prop} {Fin : List Value → Ledger → Prop} {news : Ledger}
def FltEl (news : Ledger) (k : Int) (y : Value) (news' : Ledger) : Prop := news' = news ∧ ∃ t, y = .int k t
def FltNo (news : Ledger) (_ : Value) (news' : Ledger) : Prop := news' = news
theorem flt_rest {vs : List Value} {ns : List Int} (hi : IntsAre vs ns)
    (turn : ∀ k t I oI C oC D m₂ ys h tk (E' : Value → Shared → Prop), k ∈ ns → NsObj oC m₂ → m₂ x = some (.int k t) → Fr h₀ L h m → News h₀ L h ((I, oI) :: (C, oC) :: (D, lst ys) :: news) → Off3 I C D news → ((@Ne Nat I C) ∧ (@Ne Nat I D) ∧ (@Ne Nat C D)) →
      wpAny (model prog w) A (isTrue ct (compEnvC scope cl C env) (eval ct (compEnvC scope cl C env))) (fun ok s' => if ok = true then
        wpAny (model prog w) A (eval elt (compEnvC scope cl C env)) (CompEnd h₀ L m { s with heap := h, toks := tk } I oI C oC D (lst ys) S (FltEl news k)) E' s'
        else CompEnd h₀ L m { s with heap := h, toks := tk } I oI C oC D (lst ys) S (FltNo news) Value.none s') E' { s with heap := h, toks := tk })
    (fin : ∀ ys cs, IntsAre ys cs → (∀ c ∈ cs, c ∈ ns) → cs.length ≤ ns.length → Fin ys news) :
    CompRestT prog w A h₀ L m env ct elt x scope cl s S (fun i v => vs.toArray[i]? = some v) Fin vs.toArray.size 0 [] news := by
  have key : ∀ (j i : Nat) (ys : List Value) (cs : List Int), i + j = ns.length → IntsAre ys cs → (∀ c ∈ cs, c ∈ ns) → cs.length ≤ i → CompRestT prog w A h₀ L m env ct elt x scope cl s S (fun i v => vs.toArray[i]? = some v) Fin j i ys news := by
    intro j
    induction j with
    | zero =>
      intro i ys cs hij hy hc hl
      exact CompRestT.zero (fin ys cs hy hc (by omega))
    | succ j ih =>
      intro i ys cs hij hy hc hl
      refine CompRestT.succ ?_
      intro v I oI C oC D m₂ h tk E' hv hC hx F N off ne
      obtain ⟨k, t, hv', hk⟩ := IntsAre.at hi i v (by simpa using hv)
      rw [hv'] at hx
      have hm := List.mem_of_getElem? hk
      refine wpAny_mono (turn k t I oI C oC D m₂ ys h tk E' hm hC hx F N off ne) (fun ok s₂ hq => ?_) fun _ _ e => e
      split at hq
      · rename_i ho
        rw [if_pos ho]
        refine wpAny_mono hq (fun y s₃ hq => ?_) fun _ _ e => e
        obtain ⟨h', tk', nw, e, F', N', off', hS, hn, t', hy'⟩ := hq
        rw [hn] at N' off' hS
        refine ⟨h', tk', news, e, F', N', off', hS, ?_⟩
        rw [hy']
        exact ih (i + 1) _ (cs ++ [k]) (by omega) (ints_snoc hy) (fun c hcm => by
          rcases List.mem_append.mp hcm with hcm | hcm
          · exact hc c hcm
          · rw [List.mem_singleton.mp hcm]; exact hm) (by rw [List.length_append, List.length_singleton]; omega)
      · rename_i ho
        rw [if_neg ho]
        obtain ⟨h', tk', nw, e, F', N', off', hS, hn⟩ := hq
        have hn : nw = news := hn
        rw [hn] at N' off' hS
        exact ⟨h', tk', news, e, F', N', off', hS, ih (i + 1) _ cs (by omega) hy hc (by omega)⟩
  have hsz : vs.toArray.size = ns.length := by rw [List.size_toArray]; exact hi.length
  rw [hsz]
  exact key ns.length 0 [] [] (by omega) .nil (fun _ h => nomatch h) (by simp)
end
/-- a call of a def that comes back: over a part of the ledger -/
def SpecB (prog : Program) (w : World) (K : Frag) (D U : Nat) (f : Addr) (args : List Value) (Pg : Heap → Prop) (nn : Ledger) (Post : Value → Ledger → Prop) : Prop :=
  ∀ (p : Program) (loose : List Str) (mean : ExcName → Option Value) (mg mb : Str → Option Value) (env : Env) (outer : List Env) (A₀ A : Around) (base h₀ : Heap) (L : Addr) (m : Str → Option Value) (s : Shared) (Q E : Value → Shared → Prop),
    A.handled = none → A.frames = some (env :: outer) → A.guards = some [] → A.depth ≤ D → A.units ≤ U → env.frame = some L → env.scope.kind = .function →
    Below A₀ base outer h₀ → Fr h₀ L s.heap m → K.In h₀ → Pg h₀ → News h₀ L s.heap nn → Top p loose mean mg mb h₀ →
    (∀ v nn' h' tk', Post v nn' → Fr h₀ L h' m → News h₀ L h' nn' → Keep (nn.map (·.1)) s.heap h' → (∀ q ∈ nn', q.1 ∈ nn.map (·.1) ∨ s.heap.get? q.1 = none) → Q v { s with heap := h', toks := tk' }) →
    wpAny (model prog w) A (call (.ref f) args) Q E s

section
variable {prog : Program} {w : World} {K : Frag} {D U : Nat} {f : Addr} {args : List Value} {nn : Ledger} {Post : Value → Ledger → Prop}
theorem spec_ofB {Pg : Heap → Prop} (hmono : ∀ h h' : Heap, (∀ b o, h.get? b = some o → h'.get? b = some o) → Pg h → Pg h') {name qual : Str} {params : Arguments} {body : List Stmt} {scope : Scope} {dV kV doc pm cdv ct oc : Value} {an od : Option Addr} {osl : Array (Option Value)} {binds : List (Str × Value)}
    (ho : K.lookup f = some ⟨oc, od, .func (fnOf name qual params body scope dV kV doc pm an cdv ct), osl⟩) (hcd : codeIn K cdv qual = true)
    (hroom : D < recursionLimit) (hbind : ∀ s : Shared, K.In s.heap → BindsTo s (fnOf name qual params body scope dV kV doc pm an cdv ct) ⟨args, []⟩ binds) (hloc : ∀ y ∈ binds, scope.names.lookup y.1 = some .local)
    (hco : scope.isCoroutine = false) (hgen : scope.isGenerator = false) (hk : scope.kind = .function) (hcell : ∀ x ∈ scope.names, x.2 ≠ .cell)
    (h : ∀ (p : Program) (loose : List Str) (mean : ExcName → Option Value) (mg mb : Str → Option Value) (outer : List Env) (A₀ : Around) (base g : Heap) (L' : Addr) (h₁ : Heap) (s : Shared) (tk : Nat) (Q : Flow → Shared → Prop),
      Below A₀ base outer g → Fr g L' h₁ (fun y => binds.reverse.lookup y) → K.In g → Pg g → News g L' h₁ nn → Top p loose mean mg mb g → (∀ q ∈ nn, q.1 < L') →
      (∀ fl v nn' h' tk' m', (match fl with | .ret v => v | _ => .none) = v → Post v nn' → Fr g L' h' m' → News g L' h' nn' → Q fl { s with heap := h', toks := tk' }) →
      wpAny (model prog w) { handled := none, depth := D + 1, frames := some (envOf qual scope L' f cdv :: outer), guards := some [], units := U + 3 } (execs body (envOf qual scope L' f cdv)) Q (fun _ _ => False) { s with heap := h₁, toks := tk }) :
    SpecB prog w K D U f args Pg nn Post := by
  intro p loose mean mg mb env outer A₀ A base h₀ L m s Q E hh hA hg hd hu hf hke B F X HP N T ret
  refine wpAny_call ?_
  obtain ⟨FG, BG, st, lv⟩ := groundX (R := fun r s' => match r with | .ok (.ret v) => Q v s' | .ok _ => False | .error e => E e s') B F N hA hf hke
  refine codeAny_call_def (fd := fnOf name qual params body scope dV kV doc pm an cdv ct) (body := body) (binds := binds) (Nat.lt_of_le_of_lt hd hroom) ((X.keeps F.keep) _ _ ho) rfl (T.nolimit.keeps F.keep) (codeRec_of (X.keeps F.keep) hcd) rfl (hbind s (X.keeps F.keep)) hcell hloc (fun h₁ hns hk₁ => ?_) hco hgen hk
  have W := h p loose mean mg mb (env :: outer) A base _ s.heap.objs.size h₁ s (s.toks + binds.length) (fun fl s' => Q (match fl with | .ret v => v | _ => .none) s') BG
    ⟨hns, fun b o e => hk₁ b o (of_hideAll _ e), Nat.le_of_eq (hideAll_size _ _)⟩ (X.keeps st) (hmono _ _ st HP)
    (fun p hp => ⟨hk₁ _ _ (N p hp).1, Nat.ne_of_lt (Heap.lt_size (N p hp).1), hideAll_none _ (List.mem_map_of_mem hp)⟩) (T.keeps st) (fun p hp => Heap.lt_size (N p hp).1) ?_
  · refine wpAny_mono (wpAny_up W ?_ ?_ ?_ ?_ ?_) (fun fl s' q => q) (fun e s' q => q.elim)
    · exact hh
    · show A.frames.map _ = _; rw [hA]; rfl
    · exact hg
    · exact Nat.succ_le_succ hd
    · exact Nat.add_le_add_right hu 3
  · intro fl v nn' h' tk' m' hv hp F' N'
    have back := lv v { s with heap := h', toks := tk' } ⟨_, m', nn', F', N', fun kF kN => ?_⟩
    · rw [hv]; exact back
    · refine ret v nn' h' tk' hp kF kN (fun b o hb hn => F'.keep b o (hideAll_get _ hb hn)) fun q hq => ?_
      by_cases hm : q.1 ∈ nn.map (·.1)
      · exact .inl hm
      · refine .inr ?_
        cases e : s.heap.get? q.1 with
        | none => rfl
        | some o =>
          have := (N' q hq).2.2
          rw [hideAll_get _ e hm] at this
          cases this
end
theorem word_37 : True := by
  k_with_none
  (k_with "my e0" => (((case ho | hcd => k_is); (case hr => decide); (case hb => first | exact fun s X => BindsTo.of_eq rfl | exact fun s X => binds_K X rfl (by k_is) rfl rfl rfl); (case hl => exact locs rfl); (case c1 | c2 | c3 => exact rfl); (case c4 => decide))))
  (k_with "my enter" => ((k_dflt (refine' spec_of ?ho ?hcd ?hr ?hb ?hl ?c1 ?c2 ?c3 ?c4 ?_; k_extra "my e0"))))
  (k_with "my enterR" => ((k_dflt (refine' specR_of ?ho ?hcd ?hr ?hb ?hl ?c1 ?c2 ?c3 ?c4 ?_; k_extra "my e0"))))
  (k_with "my rst" => (first | exact Rst.nil | exact Rst.all (fun _ _ => List.not_mem_nil) | exact Rst.all hown9 | (refine' Rst.drop ?ra ?rb; (case ra => k_extra "my in"); (case rb => k_extra "my rst")) | (refine' Rst.keep ?ra ?rb; (case ra => k_extra "my notin"); (case rb => k_extra "my rst"))))
  (k_with "my c1" => (((case a1 | a2 | a3 => exact rfl); (case a4 | a5 => exact Nat.le_of_ble_eq_true rfl))))
  (k_with "my c2" => (((case a7 => first | exact rfl | assumption); (case B | F | X | N | T => k_asm))))
  (k_with "my c4" => ((k_extra "my c1"; (case a6 => exact rfl); k_extra "my c2")))
  (k_with "my c3" => (((case hn => k_extra "my mem"); (case has => exact rfl); (case hr => k_extra "my rst"))))
  (k_with "eval Constant int" => ((refine wpAny_Constant_int ?_; (try dsimp only))))
  (k_with "evalPairs" => ((first | (refine pairTrees_cons_walk ?_; (try dsimp only)) | (refine pairTrees_nil_walk ?_; (try dsimp only)))))
  (k_with "my mem" => (first | exact List.forall_mem_nil _ | (refine' List.forall_mem_cons.mpr ⟨?ma, ?mb⟩; (case ma => k_mem); (case mb => k_extra "my mem"))))
  (k_with "my notin" => (first | exact List.not_mem_nil | (refine' notin_cons ?na ?nb; (case na => ((try dsimp only); first | k_extra "my ne" | omega)); (case nb => k_extra "my notin"))))
  (k_with "my in" => (first | exact List.Mem.head _ | (refine' List.Mem.tail _ ?_; k_extra "my in")))
  (k_with "my post" => (((try k_sweep); (try dsimp only); (try k_fold))))
  (k_with "my pre" => ((first | omega | (simp only [bne_iff_ne, ne_eq, beq_iff_eq, decide_eq_true_eq, Bool.not_eq_true'] ; omega))))
  (k_with "ite" => (first | (k_openite; goal_has Mine.codeAt; first | (refine ite_pos (by k_extra "my pre") ?_; walk_say "MINE") | (refine ite_neg (by k_extra "my pre") ?_; walk_say "MINE")) | (k_closed; first | (refine ite_pos (by decide) ?_; walk_say "MINEC") | (refine ite_neg (by decide) ?_; walk_say "MINEC"))))
  (k_with "WhlIf" => ((goal_has Mine.codeAt; first | (refine WhlIf.yes (by (simp only [bne_iff_ne, ne_eq, beq_iff_eq, decide_eq_true_eq, Bool.not_eq_true', Bool.and_eq_true] ; omega)) ?_; walk_say "MINE") | (refine WhlIf.no (by (simp only [bne_eq_false_iff_eq, beq_eq_false_iff_ne, ne_eq, decide_eq_false_iff_not, Bool.and_eq_false_iff] ; omega)) ?_; walk_say "MINE"))))
  (k_with "my enterB" => ((k_dflt (refine' spec_ofB ?hmo ?ho ?hcd ?hr ?hb ?hl ?c1 ?c2 ?c3 ?c4 ?_; k_extra "my e0"; (case hmo => exact fun h h' k q => by obtain ⟨o, e, r⟩ := q; exact ⟨o, k _ _ e, r⟩)))))
  trivial
def DeckStart (v : Value) (nn' : Ledger) : Prop :=
  ∃ (C D : Addr) (vs : List Value) (cs : List Int) (nC : Nat) (mm : Int) (t : Tok) (nD : Nat), v = .ref D ∧ nn' = [(C, listOf vs.toArray nC), (D, listOf #[.ref C, .int mm t] nD)] ∧ @Ne Nat C D ∧ IntsAre vs cs ∧ DeckOk cs mm
theorem mix_bound : ∀ (l : List Int) (a : Int), 0 ≤ a → a < 2147483647 → 0 ≤ l.foldl (fun a' n' => (a' * 31 + n' + 3).fmod 2147483647) a ∧ l.foldl (fun a' n' => (a' * 31 + n' + 3).fmod 2147483647) a < 2147483647
  | [], a, h0, h1 => ⟨h0, h1⟩
  | n :: l, a, _, _ => mix_bound l _ (Int.fmod_nonneg_of_pos _ (by decide)) (Int.fmod_lt_of_pos _ (by decide))
theorem deck_end {C D : Addr} {ys : List Value} {cs l L : List Int} {nC nD : Nat} {t : Tok} (hy : IntsAre ys cs) (hc : ∀ c ∈ cs, c ∈ l.map (fun k' => (if k' < 0 then -k' else k').fmod (10 ^ Int.toNat 60))) (hl : cs.length ≤ 63) (hne : @Ne Nat C D) :
    DeckStart (.ref D) [(C, listOf ys.toArray nC), (D, listOf #[.ref C, .int (List.foldl (fun a' n' => (a' * 31 + n' + 3).fmod 2147483647) 7 L) t] nD)] :=
  ⟨C, D, ys, cs, nC, _, t, nD, rfl, rfl, hne, hy, fun c hm => by
    obtain ⟨k, _, rfl⟩ := List.mem_map.mp (hc c hm)
    exact Int.fmod_nonneg_of_pos _ (by decide), hl, mix_bound L 7 (by decide) (by decide)⟩
theorem word_38 : True := by
  (k_with "eval ListComp" => ((k_here; lct_look; lcg_calm; k_dflt (refine LCt.ListComp_T (F₀ := by k_asm) (by with_unfolding_all rfl) (by decide) (by rfl) (by decide) (by rfl) ?_); k_dflt lct_toSrc)))
  (k_with "CompSrcT" => ((k_here; (try kcf_lens); k_dflt (refine LCt.CompSrcT.ledger (by rfl) (by k_asm) (by k_asm) (by k_mem) (by kcf_size) ?_; intro g'; refine' flt_rest ?zqi ?zqt ?zqn; (case zqi => assumption); (case' zqt => (intro k' t' I' oI' C' oC' D' m' ys' h' tk' E' hk' hC' hx' F' N' off' ne'; (simp only [LCg.Off3, and_true] at off'); (try k_fold))); (case' zqn => (intro ys7 cs7 hy7 hc7 hl7; (try k_fold)))))))
  trivial
set_option maxRecDepth 100000 in
set_option maxHeartbeats 1500000 in
theorem deck_spec {prog : Program} {w : World} {S : Addr} {vs : List Value} {ns : List Int} (hi : IntsAre vs ns) (hl : ns.length ≤ 63) :
    SpecB prog w (hd.heap_39 w.params) 590 5900 349 [.ref S] (fun h => h.IsList S vs.toArray) [] DeckStart := by
  k_extra "my enterB"
  intro pr loose mean mg mb outer A₀ base g L' h₁ s tk Q B F X HL N T lt ret
  have hvl := hi.length
  k_steps
  · have hl9 : cs7.length ≤ 63 := by
      rw [List.length_map] at hl7
      have := List.length_take_le 24 ns
      omega
    refine ret _ _ _ _ _ _ rfl (deck_end hy7 hc7 hl9 ?zne) (by assumption) (cb_drop (by assumption) (by k_extra "my mem"))
    omega
  · exact ⟨rfl, _, rfl⟩
  · exact rfl
end PartNG
section PartNM
def lawFn : Stmt := (PySem.Challenge.pw_pq0282_01.main.body.getLast?).getD (.Pass ⟨0, 0, 0, 0⟩)
def lawScope : Scope := match lawFn with | .FunctionDef _ _ _ _ _ _ sc _ _ _ => sc | _ => default
def lawBody : List Stmt := match lawFn with | .FunctionDef _ _ b _ _ _ _ _ _ _ => b | _ => []
def turnBody : List Stmt := match lawBody with | _ :: .For _ _ b _ _ :: _ => b | _ => []
def stm (i : Nat) : Stmt := turnBody.getD i (.Pass ⟨0, 0, 0, 0⟩)
theorem turn_eq : turnBody = [stm 0, stm 1, stm 2, stm 3, stm 4, stm 5, stm 6, stm 7, stm 8, stm 9] := rfl
abbrev lawEnv (L fa : Addr) (cd : Value) : Env := envOf (Str.ofString "law") lawScope L fa cd
abbrev lawA (L fa : Addr) (cd : Value) : Around := { handled := none, depth := 580, frames := some [lawEnv L fa cd], guards := some [], units := 5800 }
abbrev lawVars : List Str := [Str.ofString "_law_radix", Str.ofString "_law_figures_here", Str.ofString "_law_worth", Str.ofString "_law_unit", Str.ofString "_law_figure", Str.ofString "_law_sign", Str.ofString "_law_is_great", Str.ofString "_law_signs", Str.ofString "_law_head", Str.ofString "_law_text", Str.ofString "_law_due"]
/-- a map that keeps all names but some -/
def Kn (ns : List Str) (m m' : Str → Option Value) : Prop := ∀ z, ns.contains z = false → m' z = m z
abbrev Kp := Kn lawVars
theorem Kn.refl (ns : List Str) (m : Str → Option Value) : Kn ns m m := fun _ _ => rfl
theorem Kn.trans {ns : List Str} {a b c : Str → Option Value} (h : Kn ns a b) (k : Kn ns b c) : Kn ns a c := fun z hz => (k z hz).trans (h z hz)
theorem Kn.up {ns ms : List Str} {a b : Str → Option Value} (e : ns.all ms.contains = true) (h : Kn ns a b) : Kn ms a b := fun z hz => h z (by
  cases q : ns.contains z with
  | false => rfl
  | true =>
    have := List.all_eq_true.mp e z (List.contains_iff_mem.mp q)
    rw [hz] at this; cases this)
theorem Kn.has {ns : List Str} {a b : Str → Option Value} {n : Str} {v : Option Value} (h : Kn ns a b) (e : a n = v) (q : ns.contains n = false) : b n = v := (h n q).trans e
theorem Kn.set {ns : List Str} {m m' : Str → Option Value} {n : Str} {v : Option Value} (hn : ns.contains n = true) (h : Kn ns m m') : Kn ns m (fun y => if y = n then v else m' y) := fun z hz => by
  show (if z = n then v else m' z) = m z
  rw [if_neg (fun e => by rw [e, hn] at hz; cases hz)]
  exact h z hz
theorem m_at {m : Str → Option Value} {n : Str} {v : Value} (h : m n = some v) : m = fun y => if y = n then some v else m y := by
  funext y
  by_cases e : y = n
  · rw [if_pos e, e, h]
  · rw [if_neg e]
theorem Kn.at {ns : List Str} {m m' : Str → Option Value} {n : Str} {v : Value} (h : m n = some v) (k : Kn ns m m') : Kn ns m (fun y => if y = n then some v else m' y) := fun z hz => by
  show (if z = n then some v else m' z) = m z
  by_cases e : z = n
  · rw [if_pos e, e, h]
  · rw [if_neg e]; exact k z hz
theorem Kn.setf {ns : List Str} {m m' : Str → Option Value} {n : Str} {v : Str → Option Value} (hn : ns.contains n = true) (h : Kn ns m m') : Kn ns m (fun y => if y = n then v y else m' y) := fun z hz => by
  show (if z = n then v z else m' z) = m z
  rw [if_neg (fun e => by rw [e, hn] at hz; cases hz)]
  exact h z hz
theorem Kn.cont {ns : List Str} {m m' : Str → Option Value} {l : List Str} {v : Str → Option Value} (hn : l.all ns.contains = true) (h : Kn ns m m') : Kn ns m (fun y => if l.contains y = true then v y else m' y) := fun z hz => by
  show (if l.contains z = true then v z else m' z) = m z
  rw [if_neg (fun e => by
    have := List.all_eq_true.mp hn z (List.contains_iff_mem.mp e)
    rw [hz] at this; cases this)]
  exact h z hz
theorem word_39 : True := by
  k_with_none
  (k_with "my kp" => (first | exact Kn.refl _ _ | (refine' Kn.at (by assumption) ?kk; (case kk => k_extra "my kp")) | (refine' Kn.set (by decide +kernel) ?kk; (case kk => k_extra "my kp")) | (refine' Kn.setf (by decide +kernel) ?kk; (case kk => k_extra "my kp")) | (refine' Kn.cont (by decide +kernel) ?kk; (case kk => k_extra "my kp"))))
  (k_with "my sub" => (first | (refine' List.forall_mem_cons.mpr ⟨?ma, ?mb⟩; (case ma => k_mem); (case mb => k_extra "my sub")) | exact List.forall_mem_nil _ | (intro q hq; repeat (first | exact hq | refine List.Mem.tail _ ?_))))
  (k_with "my laws" => (show wpAny _ _ (execs _ (envOf _ ⟨_, _, _, _, _⟩ _ _ _)) _ _ _))
  (k_with "my law" => (show wpAny _ _ (exec _ (envOf _ ⟨_, _, _, _, _⟩ _ _ _)) _ _ _))
  trivial
section
variable {prog : Program} {w : World} {p : Program} {loose : List Str} {mean : ExcName → Option Value} {mg mb : Str → Option Value} {A₀ : Around} {h₀ : Heap} {L fa C D G : Addr} {cd : Value} {m : Str → Option Value} {s : Shared} {Q : Flow → Shared → Prop} {E : Value → Shared → Prop} {own : Ledger} {vs : List Value} {cs : List Int} {nC : Nat} {mm : Int} {t : Tok} {nD : Nat}
theorem word_40 : True := by
  (k_with "my e0" => (((case ho | hcd => k_is); (case hr => decide); (case hb => first | exact fun s X => BindsTo.of_eq rfl | exact fun s X => binds_K X rfl (by k_is) rfl rfl rfl); (case hl => exact locs rfl); (case c1 | c2 | c3 => exact rfl); (case c4 => decide))))
  (k_with "my enter" => ((k_dflt (refine' spec_of ?ho ?hcd ?hr ?hb ?hl ?c1 ?c2 ?c3 ?c4 ?_; k_extra "my e0"))))
  (k_with "my enterR" => ((k_dflt (refine' specR_of ?ho ?hcd ?hr ?hb ?hl ?c1 ?c2 ?c3 ?c4 ?_; k_extra "my e0"))))
  (k_with "my rst" => (first | exact Rst.nil | exact Rst.all (fun _ _ => List.not_mem_nil) | exact Rst.all hown9 | (refine' Rst.drop ?ra ?rb; (case ra => k_extra "my in"); (case rb => k_extra "my rst")) | (refine' Rst.keep ?ra ?rb; (case ra => k_extra "my notin"); (case rb => k_extra "my rst"))))
  (k_with "my c1" => (((case a1 | a2 | a3 => exact rfl); (case a4 | a5 => exact Nat.le_of_ble_eq_true rfl))))
  (k_with "my c2" => (((case a7 => first | exact rfl | assumption); (case B | F | X | N | T => k_asm))))
  (k_with "my c4" => ((k_extra "my c1"; (case a6 => exact rfl); k_extra "my c2")))
  (k_with "my c3" => (((case hn => k_extra "my mem"); (case has => exact rfl); (case hr => k_extra "my rst"))))
  (k_with "eval Constant int" => ((refine wpAny_Constant_int ?_; (try dsimp only))))
  (k_with "evalPairs" => ((first | (refine pairTrees_cons_walk ?_; (try dsimp only)) | (refine pairTrees_nil_walk ?_; (try dsimp only)))))
  (k_with "my mem" => (first | exact List.forall_mem_nil _ | (refine' List.forall_mem_cons.mpr ⟨?ma, ?mb⟩; (case ma => k_mem); (case mb => k_extra "my mem"))))
  (k_with "my notin" => (first | exact List.not_mem_nil | (refine' notin_cons ?na ?nb; (case na => ((try dsimp only); first | k_extra "my ne" | omega)); (case nb => k_extra "my notin"))))
  (k_with "my in" => (first | exact List.Mem.head _ | (refine' List.Mem.tail _ ?_; k_extra "my in")))
  (k_with "my post" => (((try k_sweep); (try dsimp only); (try k_fold))))
  (k_with "my pre" => ((first | omega | (simp only [bne_iff_ne, ne_eq, beq_iff_eq, decide_eq_true_eq, Bool.not_eq_true'] ; omega))))
  (k_with "ite" => (first | (k_openite; goal_has Mine.codeAt; first | (refine ite_pos (by k_extra "my pre") ?_; walk_say "MINE") | (refine ite_neg (by k_extra "my pre") ?_; walk_say "MINE")) | (k_closed; first | (refine ite_pos (by decide) ?_; walk_say "MINEC") | (refine ite_neg (by decide) ?_; walk_say "MINEC"))))
  (k_with "WhlIf" => ((goal_has Mine.codeAt; first | (refine WhlIf.yes (by (simp only [bne_iff_ne, ne_eq, beq_iff_eq, decide_eq_true_eq, Bool.not_eq_true', Bool.and_eq_true] ; omega)) ?_; walk_say "MINE") | (refine WhlIf.no (by (simp only [bne_eq_false_iff_eq, beq_eq_false_iff_ne, ne_eq, decide_eq_false_iff_not, Bool.and_eq_false_iff] ; omega)) ?_; walk_say "MINE"))))
  (k_with "call ref" => ((k_here; first | ((with_reducible show wpAny _ _ (call (Value.ref 356) _) _ _ _); k_dflt ((show wpAny _ _ (call (Value.ref 356) [Value.ref _, Value.int _ _]) _ _ _); refine' spec_use' (draw_spec ?p0 ?hi ?hok ?h1 ?h2) ?a1 ?a2 ?a3 ?a4 ?a5 ?a6 ?a7 ?B ?F ?X ?N ?T ?hn ?has ?hr ?_; k_extra "my c4"; (case p0 => assumption); k_extra "my c3"; (case hi | hok => assumption); (case h1 | h2 => omega); k_whole; intro v9 nn9 h9 tk9 hP9 F9 N9 fr9; (obtain ⟨x9, tx9, vs9, cs9, nC9, mm9, tt9, nD9, rfl, rfl, hx0, hx1, hi9, hok9⟩ := hP9); (simp only [List.cons_append, List.nil_append] at N9); k_extra "my post")) | ((with_reducible show wpAny _ _ (call (Value.ref 368) _) _ _ _); k_dflt ((show wpAny _ _ (call (Value.ref 368) [Value.ref _]) _ _ _); refine' spec_use' (figures_spec ?p0 ?hi ?hok) ?a1 ?a2 ?a3 ?a4 ?a5 ?a6 ?a7 ?B ?F ?X ?N ?T ?hn ?has ?hr ?_; k_extra "my c4"; (case p0 => assumption); k_extra "my c3"; (case hi | hok => assumption); k_whole; intro v9 nn9 h9 tk9 hP9 F9 N9 fr9; (obtain ⟨T9, G9, radix, tr9, figs, fs, nG9, k9, vs9, cs9, nC9, mm9, tt9, nD9, rfl, rfl, ⟨hGC, hGD⟩, hfs, hfig, hi9, hok9⟩ := hP9); (simp only [List.cons_append, List.nil_append] at N9); k_extra "my post")))))
  trivial
set_option maxRecDepth 100000 in
set_option maxHeartbeats 1500000 in
theorem stm0_spec (B : Below A₀ h₀ [] h₀) (X : (hd.heap_39 w.params).In h₀) (T : Top p loose mean mg mb h₀) (F : Fr h₀ L s.heap m) (N : News h₀ L s.heap ((C, listOf vs.toArray nC) :: (D, listOf #[.ref C, .int mm t] nD) :: own)) (hown9 : ∀ p ∈ own, p.1 ∉ [C, D]) (hne : @Ne Nat C D) (hi : IntsAre vs cs) (hok : DeckOk cs mm)
    (hm : m (Str.ofString "_law_deck_here") = some (.ref D))
    (ret : ∀ h' tk' m' G radix tr figs fs nG vs' cs' nC' mm' t' nD', Kp m m' → m' (Str.ofString "_law_radix") = some (.int radix tr) → m' (Str.ofString "_law_figures_here") = some (.ref G) → Fr h₀ L h' m' → News h₀ L h' ((G, listOf fs.toArray nG) :: (C, listOf vs'.toArray nC') :: (D, listOf #[.ref C, .int mm' t'] nD') :: own) → @Ne Nat G C → @Ne Nat G D → IntsAre fs figs → FigOk radix figs → IntsAre vs' cs' → DeckOk cs' mm' → Q .next { s with heap := h', toks := tk' }) :
    wpAny (model prog w) (lawA L fa cd) (exec (stm 0) (lawEnv L fa cd)) Q (fun _ _ => False) s := by
  show wpAny _ _ (exec (.Assign _ _ _) _) _ _ _
  k_extra "my law"
  rw [m_at hm] at F
  k_steps
  refine' ret _ _ _ _ _ _ _ _ _ _ _ _ _ _ _ ?zk ?z1 ?z2 ?zF (cb_drop ?zN ?zs) hGC hGD hfs hfig hi9 hok9
  (case zF => assumption)
  (case zN => assumption)
  (case zs => k_extra "my sub")
  (case zk => k_extra "my kp")
  (case z1 => exact rfl)
  (case z2 => exact rfl)
end
end PartNM
section PartNP
theorem word_41 : True := by
  k_with_none
  (k_with "my kp" => (first | exact Kn.refl _ _ | (refine' Kn.at (by assumption) ?kk; (case kk => k_extra "my kp")) | (refine' Kn.set (by decide +kernel) ?kk; (case kk => k_extra "my kp")) | (refine' Kn.setf (by decide +kernel) ?kk; (case kk => k_extra "my kp")) | (refine' Kn.cont (by decide +kernel) ?kk; (case kk => k_extra "my kp"))))
  (k_with "my sub" => (first | (refine' List.forall_mem_cons.mpr ⟨?ma, ?mb⟩; (case ma => k_mem); (case mb => k_extra "my sub")) | exact List.forall_mem_nil _ | (intro q hq; repeat (first | exact hq | refine List.Mem.tail _ ?_))))
  (k_with "my laws" => (show wpAny _ _ (execs _ (envOf _ ⟨_, _, _, _, _⟩ _ _ _)) _ _ _))
  (k_with "my law" => (show wpAny _ _ (exec _ (envOf _ ⟨_, _, _, _, _⟩ _ _ _)) _ _ _))
  trivial
section
variable {prog : Program} {w : World} {p : Program} {loose : List Str} {mean : ExcName → Option Value} {mg mb : Str → Option Value} {A₀ : Around} {h₀ : Heap} {L fa C D G : Addr} {cd : Value} {m : Str → Option Value} {s : Shared} {Q : Flow → Shared → Prop} {E : Value → Shared → Prop} {own : Ledger} {vs : List Value} {cs : List Int} {nC : Nat} {mm : Int} {t : Tok} {nD : Nat}
theorem word_42 : True := by
  (k_with "my e0" => (((case ho | hcd => k_is); (case hr => decide); (case hb => first | exact fun s X => BindsTo.of_eq rfl | exact fun s X => binds_K X rfl (by k_is) rfl rfl rfl); (case hl => exact locs rfl); (case c1 | c2 | c3 => exact rfl); (case c4 => decide))))
  (k_with "my enter" => ((k_dflt (refine' spec_of ?ho ?hcd ?hr ?hb ?hl ?c1 ?c2 ?c3 ?c4 ?_; k_extra "my e0"))))
  (k_with "my enterR" => ((k_dflt (refine' specR_of ?ho ?hcd ?hr ?hb ?hl ?c1 ?c2 ?c3 ?c4 ?_; k_extra "my e0"))))
  (k_with "my rst" => (first | exact Rst.nil | exact Rst.all (fun _ _ => List.not_mem_nil) | exact Rst.all hown9 | (refine' Rst.drop ?ra ?rb; (case ra => k_extra "my in"); (case rb => k_extra "my rst")) | (refine' Rst.keep ?ra ?rb; (case ra => k_extra "my notin"); (case rb => k_extra "my rst"))))
  (k_with "my c1" => (((case a1 | a2 | a3 => exact rfl); (case a4 | a5 => exact Nat.le_of_ble_eq_true rfl))))
  (k_with "my c2" => (((case a7 => first | exact rfl | assumption); (case B | F | X | N | T => k_asm))))
  (k_with "my c4" => ((k_extra "my c1"; (case a6 => exact rfl); k_extra "my c2")))
  (k_with "my c3" => (((case hn => k_extra "my mem"); (case has => exact rfl); (case hr => k_extra "my rst"))))
  (k_with "eval Constant int" => ((refine wpAny_Constant_int ?_; (try dsimp only))))
  (k_with "evalPairs" => ((first | (refine pairTrees_cons_walk ?_; (try dsimp only)) | (refine pairTrees_nil_walk ?_; (try dsimp only)))))
  (k_with "my mem" => (first | exact List.forall_mem_nil _ | (refine' List.forall_mem_cons.mpr ⟨?ma, ?mb⟩; (case ma => k_mem); (case mb => k_extra "my mem"))))
  (k_with "my notin" => (first | exact List.not_mem_nil | (refine' notin_cons ?na ?nb; (case na => ((try dsimp only); first | k_extra "my ne" | omega)); (case nb => k_extra "my notin"))))
  (k_with "my in" => (first | exact List.Mem.head _ | (refine' List.Mem.tail _ ?_; k_extra "my in")))
  (k_with "my post" => (((try k_sweep); (try dsimp only); (try k_fold))))
  (k_with "my pre" => ((first | omega | (simp only [bne_iff_ne, ne_eq, beq_iff_eq, decide_eq_true_eq, Bool.not_eq_true'] ; omega))))
  (k_with "ite" => (first | (k_openite; goal_has Mine.codeAt; first | (refine ite_pos (by k_extra "my pre") ?_; walk_say "MINE") | (refine ite_neg (by k_extra "my pre") ?_; walk_say "MINE")) | (k_closed; first | (refine ite_pos (by decide) ?_; walk_say "MINEC") | (refine ite_neg (by decide) ?_; walk_say "MINEC"))))
  (k_with "WhlIf" => ((goal_has Mine.codeAt; first | (refine WhlIf.yes (by (simp only [bne_iff_ne, ne_eq, beq_iff_eq, decide_eq_true_eq, Bool.not_eq_true', Bool.and_eq_true] ; omega)) ?_; walk_say "MINE") | (refine WhlIf.no (by (simp only [bne_eq_false_iff_eq, beq_eq_false_iff_ne, ne_eq, decide_eq_false_iff_not, Bool.and_eq_false_iff] ; omega)) ?_; walk_say "MINE"))))
  (k_with "exec For" => ((k_here; (rename Fr _ _ _ _ => lF'); (with_unfolding_all refine' For_invVF lF' ?k1 ?k2 ?_; (case k1 => exact rfl); (case k2 => exact rfl); k_whole))))
  trivial
def lo (radix : Int) (pre : List Int) : Int × Int := pre.foldl (fun p f => (p.1 + f * p.2, p.2 * radix)) (0, 1)
def Wd (radix : Int) (pre : List Int) (a b : Int) : Prop := (a, b) = lo radix pre
theorem Wd.start {radix : Int} : Wd radix [] 0 1 := rfl
theorem Wd.step {radix : Int} {pre : List Int} {a b n : Int} (h : Wd radix pre a b) : Wd radix (pre ++ [n]) (a + n * b) (b * radix) := by
  unfold Wd lo at *
  rw [List.foldl_append, ← h]
  rfl
theorem lo_pow (radix : Int) : ∀ (l : List Int) (a b : Int), (l.foldl (fun p f => (p.1 + f * p.2, p.2 * radix)) (a, b)).2 = b * radix ^ l.length
  | [], a, b => by simp
  | f :: l, a, b => by
    rw [List.foldl_cons, lo_pow radix l, List.length_cons, Int.pow_succ, Int.mul_assoc, Int.mul_comm radix]
theorem Wd.unit {radix : Int} {pre : List Int} {a b : Int} (h : Wd radix pre a b) : b = radix ^ pre.length := by
  have := lo_pow radix pre 0 1
  unfold Wd lo at h
  rw [← h, Int.one_mul] at this
  exact this
theorem Wd.worth {radix : Int} {pre : List Int} {a b : Int} (h : Wd radix pre a b) : a = (lo radix pre).1 := by
  unfold Wd at h
  rw [← h]
theorem pow_le36 {r : Int} (h0 : 2 ≤ r) (h1 : r ≤ 36) : ∀ n : Nat, 0 ≤ r ^ n ∧ r ^ n ≤ 36 ^ n
  | 0 => by simp
  | n + 1 => by
    have := pow_le36 h0 h1 n
    rw [Int.pow_succ, Int.pow_succ]
    have h2 : r ^ n * r ≤ r ^ n * 36 := Int.mul_le_mul_of_nonneg_left h1 this.1
    have h3 : r ^ n * 36 ≤ 36 ^ n * 36 := Int.mul_le_mul_of_nonneg_right this.2 (by decide)
    exact ⟨Int.mul_nonneg this.1 (by omega), Int.le_trans h2 h3⟩
theorem pow36_mono : ∀ {a b : Nat}, a ≤ b → (36 : Int) ^ a ≤ 36 ^ b := fun {a b} h => by
  have := Nat.pow_le_pow_right (n := 36) (by decide) h
  exact_mod_cast this
theorem bits_15 {a : Int} (h0 : 0 ≤ a) (h1 : a ≤ 36 ^ 9) : Builtin.Int.intBits a ≤ 64 := by
  refine Nat.le_trans (bits_mono h0 h1) ?_
  decide +kernel
theorem unit_bits {radix : Int} {figs pre post : List Int} {n a b : Int} (h0 : 2 ≤ radix) (h1 : radix ≤ 36) (hl : figs.length ≤ 9) (e : figs.reverse = pre ++ n :: post) (h : Wd radix pre a b) : Builtin.Int.intBits b ≤ 64 := by
  have hp : pre.length ≤ 9 := by
    have := congrArg List.length e
    rw [List.length_reverse, List.length_append, List.length_cons] at this
    omega
  rw [h.unit]
  have := pow_le36 h0 h1 pre.length
  exact bits_15 this.1 (Int.le_trans this.2 (pow36_mono hp))
theorem word_43 : True := by
  (k_with "binaryOp Mult int int" => ((first | (refine mul_int ?_ (IntMulOk.of_right (unit_bits hr0 hr1 hl (by assumption) (by assumption)))) | (refine mul_int ?_ (IntMulOk.of_right (bits_small (by omega) (by omega)))))))
  trivial
set_option maxRecDepth 100000 in
set_option maxHeartbeats 1500000 in
theorem stmS_spec {radix : Int} {tr : Tok} {figs : List Int} {fs : List Value} {nG : Nat} (B : Below A₀ h₀ [] h₀) (X : (hd.heap_39 w.params).In h₀) (T : Top p loose mean mg mb h₀) (F : Fr h₀ L s.heap m) (N : News h₀ L s.heap ((G, listOf fs.toArray nG) :: (C, listOf vs.toArray nC) :: (D, listOf #[.ref C, .int mm t] nD) :: own)) (hown9 : ∀ p ∈ own, p.1 ∉ [C, D]) (hne : @Ne Nat C D) (hGC : @Ne Nat G C) (hGD : @Ne Nat G D)
    (hfs : IntsAre fs figs) (hl : figs.length ≤ 9) (hr0 : 2 ≤ radix) (hr1 : radix ≤ 36)
    (hm1 : m (Str.ofString "_law_radix") = some (.int radix tr)) (hm2 : m (Str.ofString "_law_figures_here") = some (.ref G))
    (ret : ∀ h' tk' m' worth tw, Kp m m' → m' (Str.ofString "_law_radix") = some (.int radix tr) → m' (Str.ofString "_law_figures_here") = some (.ref G) → m' (Str.ofString "_law_worth") = some (.int worth tw) → worth = (lo radix figs.reverse).1 → Fr h₀ L h' m' → News h₀ L h' ((G, listOf fs.toArray nG) :: (C, listOf vs.toArray nC) :: (D, listOf #[.ref C, .int mm t] nD) :: own) → Q .next { s with heap := h', toks := tk' }) :
    wpAny (model prog w) (lawA L fa cd) (execs [stm 1, stm 2] (lawEnv L fa cd)) Q (fun _ _ => False) s := by
  show wpAny _ _ (execs [.Assign _ _ _, .If _ _ _ _] _) _ _ _
  k_extra "my laws"
  have hl2 := hfs.length
  rw [m_at hm1, m_at hm2] at F
  (k_with "state" => first | exact Wd.start | exact Wd.step (by assumption))
  (k_with "pyIter ref" => k_state (fun pre a b => Wd radix pre a b) "_law_worth" "_law_unit")
  k_steps
  (rename Wd _ _ _ _ => wd)
  refine' ret _ _ _ _ _ ?zk ?z1 ?z2 ?z3 wd.worth ?zF (cb_drop ?zN ?zs)
  (case zF => assumption)
  (case zN => assumption)
  (case zs => k_extra "my sub")
  (case zk => k_extra "my kp")
  (case z1 => exact rfl)
  (case z2 => exact rfl)
  (case z3 => exact rfl)
end
end PartNP
section PartNQ
theorem word_44 : True := by
  k_with_none
  (k_with "my kp" => (first | exact Kn.refl _ _ | (refine' Kn.at (by assumption) ?kk; (case kk => k_extra "my kp")) | (refine' Kn.set (by decide +kernel) ?kk; (case kk => k_extra "my kp")) | (refine' Kn.setf (by decide +kernel) ?kk; (case kk => k_extra "my kp")) | (refine' Kn.cont (by decide +kernel) ?kk; (case kk => k_extra "my kp"))))
  (k_with "my sub" => (first | (refine' List.forall_mem_cons.mpr ⟨?ma, ?mb⟩; (case ma => k_mem); (case mb => k_extra "my sub")) | exact List.forall_mem_nil _ | (intro q hq; repeat (first | exact hq | refine List.Mem.tail _ ?_))))
  (k_with "my laws" => (show wpAny _ _ (execs _ (envOf _ ⟨_, _, _, _, _⟩ _ _ _)) _ _ _))
  (k_with "my law" => (show wpAny _ _ (exec _ (envOf _ ⟨_, _, _, _, _⟩ _ _ _)) _ _ _))
  trivial
section
variable {prog : Program} {w : World} {p : Program} {loose : List Str} {mean : ExcName → Option Value} {mg mb : Str → Option Value} {A₀ : Around} {h₀ : Heap} {L fa C D G : Addr} {cd : Value} {m : Str → Option Value} {s : Shared} {Q : Flow → Shared → Prop} {E : Value → Shared → Prop} {own : Ledger} {vs : List Value} {cs : List Int} {nC : Nat} {mm : Int} {t : Tok} {nD : Nat}
theorem word_45 : True := by
  (k_with "my e0" => (((case ho | hcd => k_is); (case hr => decide); (case hb => first | exact fun s X => BindsTo.of_eq rfl | exact fun s X => binds_K X rfl (by k_is) rfl rfl rfl); (case hl => exact locs rfl); (case c1 | c2 | c3 => exact rfl); (case c4 => decide))))
  (k_with "my enter" => ((k_dflt (refine' spec_of ?ho ?hcd ?hr ?hb ?hl ?c1 ?c2 ?c3 ?c4 ?_; k_extra "my e0"))))
  (k_with "my enterR" => ((k_dflt (refine' specR_of ?ho ?hcd ?hr ?hb ?hl ?c1 ?c2 ?c3 ?c4 ?_; k_extra "my e0"))))
  (k_with "my rst" => (first | exact Rst.nil | exact Rst.all (fun _ _ => List.not_mem_nil) | exact Rst.all hown9 | (refine' Rst.drop ?ra ?rb; (case ra => k_extra "my in"); (case rb => k_extra "my rst")) | (refine' Rst.keep ?ra ?rb; (case ra => k_extra "my notin"); (case rb => k_extra "my rst"))))
  (k_with "my c1" => (((case a1 | a2 | a3 => exact rfl); (case a4 | a5 => exact Nat.le_of_ble_eq_true rfl))))
  (k_with "my c2" => (((case a7 => first | exact rfl | assumption); (case B | F | X | N | T => k_asm))))
  (k_with "my c4" => ((k_extra "my c1"; (case a6 => exact rfl); k_extra "my c2")))
  (k_with "my c3" => (((case hn => k_extra "my mem"); (case has => exact rfl); (case hr => k_extra "my rst"))))
  (k_with "eval Constant int" => ((refine wpAny_Constant_int ?_; (try dsimp only))))
  (k_with "evalPairs" => ((first | (refine pairTrees_cons_walk ?_; (try dsimp only)) | (refine pairTrees_nil_walk ?_; (try dsimp only)))))
  (k_with "my mem" => (first | exact List.forall_mem_nil _ | (refine' List.forall_mem_cons.mpr ⟨?ma, ?mb⟩; (case ma => k_mem); (case mb => k_extra "my mem"))))
  (k_with "my notin" => (first | exact List.not_mem_nil | (refine' notin_cons ?na ?nb; (case na => ((try dsimp only); first | k_extra "my ne" | omega)); (case nb => k_extra "my notin"))))
  (k_with "my in" => (first | exact List.Mem.head _ | (refine' List.Mem.tail _ ?_; k_extra "my in")))
  (k_with "my post" => (((try k_sweep); (try dsimp only); (try k_fold))))
  (k_with "my pre" => ((first | omega | (simp only [bne_iff_ne, ne_eq, beq_iff_eq, decide_eq_true_eq, Bool.not_eq_true'] ; omega))))
  (k_with "ite" => (first | (k_openite; goal_has Mine.codeAt; first | (refine ite_pos (by k_extra "my pre") ?_; walk_say "MINE") | (refine ite_neg (by k_extra "my pre") ?_; walk_say "MINE")) | (k_closed; first | (refine ite_pos (by decide) ?_; walk_say "MINEC") | (refine ite_neg (by decide) ?_; walk_say "MINEC"))))
  (k_with "WhlIf" => ((goal_has Mine.codeAt; first | (refine WhlIf.yes (by (simp only [bne_iff_ne, ne_eq, beq_iff_eq, decide_eq_true_eq, Bool.not_eq_true', Bool.and_eq_true] ; omega)) ?_; walk_say "MINE") | (refine WhlIf.no (by (simp only [bne_eq_false_iff_eq, beq_eq_false_iff_ne, ne_eq, decide_eq_false_iff_not, Bool.and_eq_false_iff] ; omega)) ?_; walk_say "MINE"))))
  (k_with "binaryOp Mult int int" => ((refine mul_int ?_ (IntMulOk.of_left (bits_small (by omega) (by omega))))))
  trivial
set_option maxRecDepth 100000 in
set_option maxHeartbeats 1500000 in
theorem stmW_spec {tr : Tok} {x : Int} {d : Nat} {fs : List Value} {nG : Nat} (B : Below A₀ h₀ [] h₀) (X : (hd.heap_39 w.params).In h₀) (T : Top p loose mean mg mb h₀) (F : Fr h₀ L s.heap m) (N : News h₀ L s.heap ((G, listOf fs.toArray nG) :: (C, listOf vs.toArray nC) :: (D, listOf #[.ref C, .int mm t] nD) :: own))
    (hfs : IntsAre fs (x :: List.replicate (16382 + d) 15)) (hx : x = 15 ∨ x = 1 ∨ x = 3) (hd : d < 3)
    (hm1 : m (Str.ofString "_law_radix") = some (.int 16 tr)) (hm2 : m (Str.ofString "_law_figures_here") = some (.ref G))
    (ret : ∀ h' tk' m' worth tw, Kp m m' → m' (Str.ofString "_law_radix") = some (.int 16 tr) → m' (Str.ofString "_law_figures_here") = some (.ref G) → m' (Str.ofString "_law_worth") = some (.int worth tw) → worth = (x + 1) * 16 ^ (16382 + d) - 1 → Fr h₀ L h' m' → News h₀ L h' ((G, listOf fs.toArray nG) :: (C, listOf vs.toArray nC) :: (D, listOf #[.ref C, .int mm t] nD) :: own) → Q .next { s with heap := h', toks := tk' }) :
    wpAny (model prog w) (lawA L fa cd) (execs [stm 1, stm 2] (lawEnv L fa cd)) Q (fun _ _ => False) s := by
  show wpAny _ _ (execs [.Assign _ _ _, .If _ _ _ _] _) _ _ _
  k_extra "my laws"
  obtain ⟨figs, hfg⟩ : ∃ l, l = x :: List.replicate (16382 + d) 15 := ⟨_, rfl⟩
  have hl : figs.length = 16383 + d := by rw [hfg, List.length_cons, List.length_replicate]; omega
  have hhd : figs.getD (Int.toNat 0) 0 = x := by rw [hfg]; rfl
  rw [← hfg] at hfs
  have hl2 := hfs.length
  rw [m_at hm1, m_at hm2] at F
  k_steps
  refine' ret _ _ _ _ _ ?zk ?z1 ?z2 ?z3 ?z4 ?zF (cb_drop ?zN ?zs)
  (case zF => assumption)
  (case zN => assumption)
  (case zs => k_extra "my sub")
  (case zk => k_extra "my kp")
  (case z1 => exact rfl)
  (case z2 => exact rfl)
  (case z3 => exact rfl)
  (case z4 =>
    rw [hhd, hl, show (((16383 + d : Nat) : Int) - 1).toNat = 16382 + d by omega])
end
end PartNQ
section PartNR
theorem word_46 : True := by
  k_with_none
  (k_with "my kp" => (first | exact Kn.refl _ _ | (refine' Kn.at (by assumption) ?kk; (case kk => k_extra "my kp")) | (refine' Kn.set (by decide +kernel) ?kk; (case kk => k_extra "my kp")) | (refine' Kn.setf (by decide +kernel) ?kk; (case kk => k_extra "my kp")) | (refine' Kn.cont (by decide +kernel) ?kk; (case kk => k_extra "my kp"))))
  (k_with "my sub" => (first | (refine' List.forall_mem_cons.mpr ⟨?ma, ?mb⟩; (case ma => k_mem); (case mb => k_extra "my sub")) | exact List.forall_mem_nil _ | (intro q hq; repeat (first | exact hq | refine List.Mem.tail _ ?_))))
  (k_with "my laws" => (show wpAny _ _ (execs _ (envOf _ ⟨_, _, _, _, _⟩ _ _ _)) _ _ _))
  (k_with "my law" => (show wpAny _ _ (exec _ (envOf _ ⟨_, _, _, _, _⟩ _ _ _)) _ _ _))
  trivial
section
variable {prog : Program} {w : World} {p : Program} {loose : List Str} {mean : ExcName → Option Value} {mg mb : Str → Option Value} {A₀ : Around} {h₀ : Heap} {L fa C D G : Addr} {cd : Value} {m : Str → Option Value} {s : Shared} {Q : Flow → Shared → Prop} {E : Value → Shared → Prop} {own : Ledger} {vs : List Value} {cs : List Int} {nC : Nat} {mm : Int} {t : Tok} {nD : Nat}
theorem word_47 : True := by
  (k_with "my e0" => (((case ho | hcd => k_is); (case hr => decide); (case hb => first | exact fun s X => BindsTo.of_eq rfl | exact fun s X => binds_K X rfl (by k_is) rfl rfl rfl); (case hl => exact locs rfl); (case c1 | c2 | c3 => exact rfl); (case c4 => decide))))
  (k_with "my enter" => ((k_dflt (refine' spec_of ?ho ?hcd ?hr ?hb ?hl ?c1 ?c2 ?c3 ?c4 ?_; k_extra "my e0"))))
  (k_with "my enterR" => ((k_dflt (refine' specR_of ?ho ?hcd ?hr ?hb ?hl ?c1 ?c2 ?c3 ?c4 ?_; k_extra "my e0"))))
  (k_with "my rst" => (first | exact Rst.nil | exact Rst.all (fun _ _ => List.not_mem_nil) | exact Rst.all hown9 | (refine' Rst.drop ?ra ?rb; (case ra => k_extra "my in"); (case rb => k_extra "my rst")) | (refine' Rst.keep ?ra ?rb; (case ra => k_extra "my notin"); (case rb => k_extra "my rst"))))
  (k_with "my c1" => (((case a1 | a2 | a3 => exact rfl); (case a4 | a5 => exact Nat.le_of_ble_eq_true rfl))))
  (k_with "my c2" => (((case a7 => first | exact rfl | assumption); (case B | F | X | N | T => k_asm))))
  (k_with "my c4" => ((k_extra "my c1"; (case a6 => exact rfl); k_extra "my c2")))
  (k_with "my c3" => (((case hn => k_extra "my mem"); (case has => exact rfl); (case hr => k_extra "my rst"))))
  (k_with "eval Constant int" => ((refine wpAny_Constant_int ?_; (try dsimp only))))
  (k_with "evalPairs" => ((first | (refine pairTrees_cons_walk ?_; (try dsimp only)) | (refine pairTrees_nil_walk ?_; (try dsimp only)))))
  (k_with "my mem" => (first | exact List.forall_mem_nil _ | (refine' List.forall_mem_cons.mpr ⟨?ma, ?mb⟩; (case ma => k_mem); (case mb => k_extra "my mem"))))
  (k_with "my notin" => (first | exact List.not_mem_nil | (refine' notin_cons ?na ?nb; (case na => ((try dsimp only); first | k_extra "my ne" | omega)); (case nb => k_extra "my notin"))))
  (k_with "my in" => (first | exact List.Mem.head _ | (refine' List.Mem.tail _ ?_; k_extra "my in")))
  (k_with "my post" => (((try k_sweep); (try dsimp only); (try k_fold))))
  (k_with "my pre" => ((first | omega | (simp only [bne_iff_ne, ne_eq, beq_iff_eq, decide_eq_true_eq, Bool.not_eq_true'] ; omega))))
  (k_with "ite" => (first | (k_openite; goal_has Mine.codeAt; first | (refine ite_pos (by k_extra "my pre") ?_; walk_say "MINE") | (refine ite_neg (by k_extra "my pre") ?_; walk_say "MINE")) | (k_closed; first | (refine ite_pos (by decide) ?_; walk_say "MINEC") | (refine ite_neg (by decide) ?_; walk_say "MINEC"))))
  (k_with "WhlIf" => ((goal_has Mine.codeAt; first | (refine WhlIf.yes (by (simp only [bne_iff_ne, ne_eq, beq_iff_eq, decide_eq_true_eq, Bool.not_eq_true', Bool.and_eq_true] ; omega)) ?_; walk_say "MINE") | (refine WhlIf.no (by (simp only [bne_eq_false_iff_eq, beq_eq_false_iff_ne, ne_eq, decide_eq_false_iff_not, Bool.and_eq_false_iff] ; omega)) ?_; walk_say "MINE"))))
  (k_with "call ref" => ((k_here; first | ((with_reducible show wpAny _ _ (call (Value.ref 356) _) _ _ _); k_dflt ((show wpAny _ _ (call (Value.ref 356) [Value.ref _, Value.int _ _]) _ _ _); refine' spec_use' (draw_spec (C := C) (D := D) ?p0 ?hi ?hok ?h1 ?h2) ?a1 ?a2 ?a3 ?a4 ?a5 ?a6 ?a7 ?B ?F ?X ?N ?T ?hn ?has ?hr ?_; k_extra "my c4"; (case p0 => assumption); k_extra "my c3"; (case hi | hok => assumption); (case h1 | h2 => omega); k_whole; intro v9 nn9 h9 tk9 hP9 F9 N9 fr9; (obtain ⟨x9, tx9, vs9, cs9, nC9, mm9, tt9, nD9, rfl, rfl, hx0, hx1, hi9, hok9⟩ := hP9); (simp only [List.cons_append, List.nil_append] at N9); k_extra "my post")))))
  (k_with "subscriptTail" => ((k_dflt ((have hx3 : x9 = 0 ∨ x9 = 1 ∨ x9 = 2 := by omega); rcases hx3 with rfl | rfl | rfl))))
  (k_with "my end" => ((   refine' ret _ _ _ _ _ _ _ _ _ _ _ _ _ ?zk ?z1 ?z2 ?z3 ?z4 ?z5 ?zl ?zm ?zF (cb_drop ?zN ?zs) ?zi ?zo;   (case zF => assumption); (case zN => assumption); (case zs => k_extra "my sub"); (case zk => k_extra "my kp"); (case z1 => exact rfl); (case z2 => exact rfl); (case z3 => exact rfl); (case z4 => exact rfl); (case z5 => exact rfl); (case zl => first | exact s_empty | exact s_minus | exact s_plus); (case zm => simp); (case zi => assumption); (case zo => assumption))))
  trivial
set_option maxRecDepth 100000 in
set_option maxHeartbeats 1500000 in
theorem stm3_spec {radix : Int} {tr tw : Tok} {figs : List Int} {fs : List Value} {nG : Nat} {worth : Int} (B : Below A₀ h₀ [] h₀) (X : (hd.heap_39 w.params).In h₀) (T : Top p loose mean mg mb h₀) (F : Fr h₀ L s.heap m) (N : News h₀ L s.heap ((G, listOf fs.toArray nG) :: (C, listOf vs.toArray nC) :: (D, listOf #[.ref C, .int mm t] nD) :: own)) (hown9 : ∀ p ∈ own, p.1 ∉ [C, D]) (hne : @Ne Nat C D) (hGC : @Ne Nat G C) (hGD : @Ne Nat G D) (hi : IntsAre vs cs) (hok : DeckOk cs mm)
    (hm0 : m (Str.ofString "_law_deck_here") = some (.ref D)) (hm1 : m (Str.ofString "_law_radix") = some (.int radix tr)) (hm2 : m (Str.ofString "_law_figures_here") = some (.ref G)) (hm3 : m (Str.ofString "_law_worth") = some (.int worth tw))
    (ret : ∀ h' tk' m' sg sl ts great vs' cs' nC' mm' t' nD', Kp m m' → m' (Str.ofString "_law_radix") = some (.int radix tr) → m' (Str.ofString "_law_figures_here") = some (.ref G) → m' (Str.ofString "_law_worth") = some (.int worth tw) → m' (Str.ofString "_law_sign") = some (.str sg ts) → m' (Str.ofString "_law_is_great") = some (.bool great) →
      sg = KStt.txt sl → (sl = [] ∨ sl = [45] ∨ sl = [43]) → Fr h₀ L h' m' → News h₀ L h' ((G, listOf fs.toArray nG) :: (C, listOf vs'.toArray nC') :: (D, listOf #[.ref C, .int mm' t'] nD') :: own) → IntsAre vs' cs' → DeckOk cs' mm' → Q .next { s with heap := h', toks := tk' }) :
    wpAny (model prog w) (lawA L fa cd) (exec (stm 3) (lawEnv L fa cd)) Q (fun _ _ => False) s := by
  show wpAny _ _ (exec (.Assign _ _ _) _) _ _ _
  k_extra "my law"
  rw [m_at hm0, m_at hm1, m_at hm2, m_at hm3] at F
  k_steps
  all_goals k_extra "my end"
end
end PartNR
section PartNT
open LCg
/-- the sign of a figure, small -/
def figD (f : Int) : Int := if f ≤ 9 then f + 48 else f + 87
abbrev digS : PySem.Str := Str.ofString "0123456789abcdefghijklmnopqrstuvwxyz"
theorem item_tab : ∀ n : Nat, n < 36 → Txt.item digS n = KStt.txt [figD n] := by decide +kernel
theorem item_fig {f : Int} (h0 : 0 ≤ f) (h1 : f < 36) : Txt.item digS f = KStt.txt [figD f] := by
  have := item_tab f.toNat (by omega)
  rwa [Int.toNat_of_nonneg h0] at this
def SgEl (news : Ledger) (f : Int) (y : Value) (news' : Ledger) : Prop := news' = news ∧ ∃ t, y = .str (Txt.item digS f) t
section
variable {prog : Program} {w : World} {A : Around} {s : Shared} {h₀ : Heap} {L : Addr} {m : Str → Option Value} {env : Env} {elt : Expr} {x : Str} {scope : Scope} {cl : List (Str × Addr)} {S : Ledger → Prop} {Fin : List Value → Ledger → Prop} {news : Ledger}
theorem sg_rest {vs : List Value} {ns : List Int} (hi : IntsAre vs ns)
    (turn : ∀ k t I oI C oC D m₂ ys h tk (E' : Value → Shared → Prop), k ∈ ns → NsObj oC m₂ → m₂ x = some (.int k t) → Fr h₀ L h m → News h₀ L h ((I, oI) :: (C, oC) :: (D, lst ys) :: news) → Off3 I C D news → ((@Ne Nat I C) ∧ (@Ne Nat I D) ∧ (@Ne Nat C D)) →
      wpAny (model prog w) A (eval elt (compEnvC scope cl C env)) (CompEnd h₀ L m { s with heap := h, toks := tk } I oI C oC D (lst ys) S (SgEl news k)) E' { s with heap := h, toks := tk })
    (fin : ∀ ys, StrsAre ys (ns.map fun f => Txt.item digS f) → Fin ys news) :
    CompRest prog w A h₀ L m env elt x scope cl s S (fun i v => vs.toArray[i]? = some v) Fin vs.toArray.size 0 [] news := by
  have key : ∀ (j i : Nat) (ys : List Value), i + j = ns.length → StrsAre ys ((ns.take i).map fun f => Txt.item digS f) → CompRest prog w A h₀ L m env elt x scope cl s S (fun i v => vs.toArray[i]? = some v) Fin j i ys news := by
    intro j
    induction j with
    | zero =>
      intro i ys hij hy
      have e : i = ns.length := by omega
      subst e
      rw [List.take_length] at hy
      exact CompRest.zero (fin ys hy)
    | succ j ih =>
      intro i ys hij hy
      refine CompRest.succ ?_
      intro v I oI C oC D m₂ h tk E' hv hC hx F N off ne
      obtain ⟨k, t, hv', hk⟩ := IntsAre.at hi i v (by simpa using hv)
      rw [hv'] at hx
      have hm := List.mem_of_getElem? hk
      refine wpAny_mono (turn k t I oI C oC D m₂ ys h tk E' hm hC hx F N off ne) (fun y s₂ hq => ?_) fun _ _ e => e
      obtain ⟨h', tk', nw, e, F', N', off', hS, hn, t', hy'⟩ := hq
      rw [hn] at N' off' hS
      refine ⟨h', tk', news, e, F', N', off', hS, ?_⟩
      rw [hy']
      refine ih (i + 1) _ (by omega) ?_
      rw [List.take_add_one, hk, List.map_append]
      exact KStt.strs_snoc hy
  have hsz : vs.toArray.size = ns.length := by rw [List.size_toArray]; exact hi.length
  rw [hsz]
  exact key ns.length 0 [] (by omega) (by simp only [List.take_zero]; exact .nil)
end
theorem word_48 : True := by
  k_with_none
  (k_with "my kp" => (first | exact Kn.refl _ _ | (refine' Kn.at (by assumption) ?kk; (case kk => k_extra "my kp")) | (refine' Kn.set (by decide +kernel) ?kk; (case kk => k_extra "my kp")) | (refine' Kn.setf (by decide +kernel) ?kk; (case kk => k_extra "my kp")) | (refine' Kn.cont (by decide +kernel) ?kk; (case kk => k_extra "my kp"))))
  (k_with "my sub" => (first | (refine' List.forall_mem_cons.mpr ⟨?ma, ?mb⟩; (case ma => k_mem); (case mb => k_extra "my sub")) | exact List.forall_mem_nil _ | (intro q hq; repeat (first | exact hq | refine List.Mem.tail _ ?_))))
  (k_with "my laws" => (show wpAny _ _ (execs _ (envOf _ ⟨_, _, _, _, _⟩ _ _ _)) _ _ _))
  (k_with "my law" => (show wpAny _ _ (exec _ (envOf _ ⟨_, _, _, _, _⟩ _ _ _)) _ _ _))
  trivial
section
variable {prog : Program} {w : World} {p : Program} {loose : List Str} {mean : ExcName → Option Value} {mg mb : Str → Option Value} {A₀ : Around} {h₀ : Heap} {L fa C D G : Addr} {cd : Value} {m : Str → Option Value} {s : Shared} {Q : Flow → Shared → Prop} {E : Value → Shared → Prop} {own : Ledger} {vs : List Value} {cs : List Int} {nC : Nat} {mm : Int} {t : Tok} {nD : Nat}
theorem word_49 : True := by
  (k_with "my e0" => (((case ho | hcd => k_is); (case hr => decide); (case hb => first | exact fun s X => BindsTo.of_eq rfl | exact fun s X => binds_K X rfl (by k_is) rfl rfl rfl); (case hl => exact locs rfl); (case c1 | c2 | c3 => exact rfl); (case c4 => decide))))
  (k_with "my enter" => ((k_dflt (refine' spec_of ?ho ?hcd ?hr ?hb ?hl ?c1 ?c2 ?c3 ?c4 ?_; k_extra "my e0"))))
  (k_with "my enterR" => ((k_dflt (refine' specR_of ?ho ?hcd ?hr ?hb ?hl ?c1 ?c2 ?c3 ?c4 ?_; k_extra "my e0"))))
  (k_with "my rst" => (first | exact Rst.nil | exact Rst.all (fun _ _ => List.not_mem_nil) | exact Rst.all hown9 | (refine' Rst.drop ?ra ?rb; (case ra => k_extra "my in"); (case rb => k_extra "my rst")) | (refine' Rst.keep ?ra ?rb; (case ra => k_extra "my notin"); (case rb => k_extra "my rst"))))
  (k_with "my c1" => (((case a1 | a2 | a3 => exact rfl); (case a4 | a5 => exact Nat.le_of_ble_eq_true rfl))))
  (k_with "my c2" => (((case a7 => first | exact rfl | assumption); (case B | F | X | N | T => k_asm))))
  (k_with "my c4" => ((k_extra "my c1"; (case a6 => exact rfl); k_extra "my c2")))
  (k_with "my c3" => (((case hn => k_extra "my mem"); (case has => exact rfl); (case hr => k_extra "my rst"))))
  (k_with "eval Constant int" => ((refine wpAny_Constant_int ?_; (try dsimp only))))
  (k_with "evalPairs" => ((first | (refine pairTrees_cons_walk ?_; (try dsimp only)) | (refine pairTrees_nil_walk ?_; (try dsimp only)))))
  (k_with "my mem" => (first | exact List.forall_mem_nil _ | (refine' List.forall_mem_cons.mpr ⟨?ma, ?mb⟩; (case ma => k_mem); (case mb => k_extra "my mem"))))
  (k_with "my notin" => (first | exact List.not_mem_nil | (refine' notin_cons ?na ?nb; (case na => ((try dsimp only); first | k_extra "my ne" | omega)); (case nb => k_extra "my notin"))))
  (k_with "my in" => (first | exact List.Mem.head _ | (refine' List.Mem.tail _ ?_; k_extra "my in")))
  (k_with "my post" => (((try k_sweep); (try dsimp only); (try k_fold))))
  (k_with "my pre" => ((first | omega | (simp only [bne_iff_ne, ne_eq, beq_iff_eq, decide_eq_true_eq, Bool.not_eq_true'] ; omega))))
  (k_with "ite" => (first | (k_openite; goal_has Mine.codeAt; first | (refine ite_pos (by k_extra "my pre") ?_; walk_say "MINE") | (refine ite_neg (by k_extra "my pre") ?_; walk_say "MINE")) | (k_closed; first | (refine ite_pos (by decide) ?_; walk_say "MINEC") | (refine ite_neg (by decide) ?_; walk_say "MINEC"))))
  (k_with "WhlIf" => ((goal_has Mine.codeAt; first | (refine WhlIf.yes (by (simp only [bne_iff_ne, ne_eq, beq_iff_eq, decide_eq_true_eq, Bool.not_eq_true', Bool.and_eq_true] ; omega)) ?_; walk_say "MINE") | (refine WhlIf.no (by (simp only [bne_eq_false_iff_eq, beq_eq_false_iff_ne, ne_eq, decide_eq_false_iff_not, Bool.and_eq_false_iff] ; omega)) ?_; walk_say "MINE"))))
  trivial
theorem sg_map {figs : List Int} (h : ∀ f ∈ figs, 0 ≤ f ∧ f < 36) : (figs.map fun f => Txt.item digS f) = (figs.map figD).map fun k => KStt.txt [k] := by
  rw [List.map_map]
  exact List.map_congr_left fun f hf => item_fig (h f hf).1 (h f hf).2
theorem sg_len {figs : List Int} (h : ∀ f ∈ figs, 0 ≤ f ∧ f < 36) (hl : figs.length ≤ 50000) : ((figs.map fun f => Txt.item digS f).map (·.length)).sum + (figs.map fun f => Txt.item digS f).length ≤ 1048576 := by
  rw [sg_map h]
  have := join_weight (figs.map figD)
  have h2 : (figs.map figD).length = figs.length := List.length_map ..
  omega
theorem sg_join {figs : List Int} (h : ∀ f ∈ figs, 0 ≤ f ∧ f < 36) : Txt.join (Str.ofString "") (figs.map fun f => Txt.item digS f) = KStt.txt (figs.map figD) := by
  rw [sg_map h, join_singles]
theorem word_50 : True := by
  (k_with "call builtin:str.join" => ((k_dflt (refine' join_listW (News.isList ?N ?m) hy7 (by decide) (sg_len hfr hl) ?_; (case N => k_asm); (case m => k_mem); intro t8 k8))))
  (k_with "eval ListComp" => ((k_here; k_dflt (refine LCg.ListComp_U (F₀ := by k_asm) (by with_unfolding_all rfl) (by decide) (by rfl) (by decide) (by rfl) ?_))))
  (k_with "CompSrc" => ((k_here; (try kcf_lens); k_dflt (refine LCg.CompSrc.ledger (by rfl) (by k_asm) (by k_asm) (by k_mem) (by rw [List.size_toArray, sizeLine_eq]; omega) ?_; intro g'; refine' sg_rest ?zqi ?zqt ?zqn; (case zqi => assumption); (case' zqt => (intro k' t' I' oI' C' oC' D' m' ys' h' tk' E' hk' hC' hx' F' N' off' ne'; (have off0 := off'); (simp only [LCg.Off3, and_true] at off'); (have hkr := hfr k' hk'); (try k_fold))); (case' zqn => (intro ys7 hy7; (try k_fold)))))))
  trivial
set_option maxRecDepth 100000 in
set_option maxHeartbeats 1500000 in
theorem stm4_spec {figs : List Int} {fs : List Value} {nG : Nat} (B : Below A₀ h₀ [] h₀) (X : (hd.heap_39 w.params).In h₀) (T : Top p loose mean mg mb h₀) (F : Fr h₀ L s.heap m) (N : News h₀ L s.heap ((G, listOf fs.toArray nG) :: (C, listOf vs.toArray nC) :: (D, listOf #[.ref C, .int mm t] nD) :: own))
    (hfs : IntsAre fs figs) (hfr : ∀ f ∈ figs, 0 ≤ f ∧ f < 36) (hl : figs.length ≤ 50000) (hm2 : m (Str.ofString "_law_figures_here") = some (.ref G))
    (ret : ∀ h' tk' m' x ts, Kn [Str.ofString "_law_signs"] m m' → m' (Str.ofString "_law_signs") = some (.str x ts) → x = KStt.txt (figs.map figD) → Fr h₀ L h' m' → News h₀ L h' ((G, listOf fs.toArray nG) :: (C, listOf vs.toArray nC) :: (D, listOf #[.ref C, .int mm t] nD) :: own) → Q .next { s with heap := h', toks := tk' }) :
    wpAny (model prog w) (lawA L fa cd) (exec (stm 4) (lawEnv L fa cd)) Q (fun _ _ => False) s := by
  show wpAny _ _ (exec (.Assign _ _ _) _) _ _ _
  k_extra "my law"
  have hl2 := hfs.length
  rw [m_at hm2] at F
  k_steps
  · refine' ret _ _ _ _ _ ?zk ?z1 (sg_join hfr) ?zF (cb_drop ?zN ?zs)
    (case zF => assumption)
    (case zN => assumption)
    (case zs => k_extra "my sub")
    (case zk => k_extra "my kp")
    (case z1 => exact rfl)
  · exact CompEnd.intro F' N' _ (fun _ h => h) off0 (.inr ⟨_, .head _, rfl, _, rfl⟩) ⟨rfl, _, rfl⟩
end
end PartNT
section PartNU
def headL (radix : Int) : List Int := if radix = 2 then [35, 98] else if radix = 8 then [35, 111] else if radix = 16 then [35, 120] else if radix = 36 then [35, 51, 54, 114] else []
theorem word_51 : True := by
  k_with_none
  (k_with "my kp" => (first | exact Kn.refl _ _ | (refine' Kn.at (by assumption) ?kk; (case kk => k_extra "my kp")) | (refine' Kn.set (by decide +kernel) ?kk; (case kk => k_extra "my kp")) | (refine' Kn.setf (by decide +kernel) ?kk; (case kk => k_extra "my kp")) | (refine' Kn.cont (by decide +kernel) ?kk; (case kk => k_extra "my kp"))))
  (k_with "my sub" => (first | (refine' List.forall_mem_cons.mpr ⟨?ma, ?mb⟩; (case ma => k_mem); (case mb => k_extra "my sub")) | exact List.forall_mem_nil _ | (intro q hq; repeat (first | exact hq | refine List.Mem.tail _ ?_))))
  (k_with "my laws" => (show wpAny _ _ (execs _ (envOf _ ⟨_, _, _, _, _⟩ _ _ _)) _ _ _))
  (k_with "my law" => (show wpAny _ _ (exec _ (envOf _ ⟨_, _, _, _, _⟩ _ _ _)) _ _ _))
  trivial
section
variable {prog : Program} {w : World} {p : Program} {loose : List Str} {mean : ExcName → Option Value} {mg mb : Str → Option Value} {A₀ : Around} {h₀ : Heap} {L fa C D G : Addr} {cd : Value} {m : Str → Option Value} {s : Shared} {Q : Flow → Shared → Prop} {E : Value → Shared → Prop} {own : Ledger} {vs : List Value} {cs : List Int} {nC : Nat} {mm : Int} {t : Tok} {nD : Nat}
theorem word_52 : True := by
  (k_with "my e0" => (((case ho | hcd => k_is); (case hr => decide); (case hb => first | exact fun s X => BindsTo.of_eq rfl | exact fun s X => binds_K X rfl (by k_is) rfl rfl rfl); (case hl => exact locs rfl); (case c1 | c2 | c3 => exact rfl); (case c4 => decide))))
  (k_with "my enter" => ((k_dflt (refine' spec_of ?ho ?hcd ?hr ?hb ?hl ?c1 ?c2 ?c3 ?c4 ?_; k_extra "my e0"))))
  (k_with "my enterR" => ((k_dflt (refine' specR_of ?ho ?hcd ?hr ?hb ?hl ?c1 ?c2 ?c3 ?c4 ?_; k_extra "my e0"))))
  (k_with "my rst" => (first | exact Rst.nil | exact Rst.all (fun _ _ => List.not_mem_nil) | exact Rst.all hown9 | (refine' Rst.drop ?ra ?rb; (case ra => k_extra "my in"); (case rb => k_extra "my rst")) | (refine' Rst.keep ?ra ?rb; (case ra => k_extra "my notin"); (case rb => k_extra "my rst"))))
  (k_with "my c1" => (((case a1 | a2 | a3 => exact rfl); (case a4 | a5 => exact Nat.le_of_ble_eq_true rfl))))
  (k_with "my c2" => (((case a7 => first | exact rfl | assumption); (case B | F | X | N | T => k_asm))))
  (k_with "my c4" => ((k_extra "my c1"; (case a6 => exact rfl); k_extra "my c2")))
  (k_with "my c3" => (((case hn => k_extra "my mem"); (case has => exact rfl); (case hr => k_extra "my rst"))))
  (k_with "eval Constant int" => ((refine wpAny_Constant_int ?_; (try dsimp only))))
  (k_with "evalPairs" => ((first | (refine pairTrees_cons_walk ?_; (try dsimp only)) | (refine pairTrees_nil_walk ?_; (try dsimp only)))))
  (k_with "my mem" => (first | exact List.forall_mem_nil _ | (refine' List.forall_mem_cons.mpr ⟨?ma, ?mb⟩; (case ma => k_mem); (case mb => k_extra "my mem"))))
  (k_with "my notin" => (first | exact List.not_mem_nil | (refine' notin_cons ?na ?nb; (case na => ((try dsimp only); first | k_extra "my ne" | omega)); (case nb => k_extra "my notin"))))
  (k_with "my in" => (first | exact List.Mem.head _ | (refine' List.Mem.tail _ ?_; k_extra "my in")))
  (k_with "my post" => (((try k_sweep); (try dsimp only); (try k_fold))))
  (k_with "my pre" => ((first | omega | (simp only [bne_iff_ne, ne_eq, beq_iff_eq, decide_eq_true_eq, Bool.not_eq_true'] ; omega))))
  (k_with "ite" => (first | (k_openite; goal_has Mine.codeAt; first | (refine ite_pos (by k_extra "my pre") ?_; walk_say "MINE") | (refine ite_neg (by k_extra "my pre") ?_; walk_say "MINE")) | (k_closed; first | (refine ite_pos (by decide) ?_; walk_say "MINEC") | (refine ite_neg (by decide) ?_; walk_say "MINEC"))))
  (k_with "WhlIf" => ((goal_has Mine.codeAt; first | (refine WhlIf.yes (by (simp only [bne_iff_ne, ne_eq, beq_iff_eq, decide_eq_true_eq, Bool.not_eq_true', Bool.and_eq_true] ; omega)) ?_; walk_say "MINE") | (refine WhlIf.no (by (simp only [bne_eq_false_iff_eq, beq_eq_false_iff_ne, ne_eq, decide_eq_false_iff_not, Bool.and_eq_false_iff] ; omega)) ?_; walk_say "MINE"))))
  (k_with "my end" => (( refine' ret _ _ _ _ _ ?zk ?z1 ?z2 ?zF (cb_drop ?zN ?zs); (case zF => assumption); (case zN => assumption); (case zs => k_extra "my sub"); (case zk => k_extra "my kp"); (case z1 => exact rfl); (case z2 => decide +kernel))))
  trivial
set_option maxRecDepth 100000 in
set_option maxHeartbeats 1500000 in
theorem stm5_spec {radix : Int} {tr : Tok} {Gl : Ledger} (B : Below A₀ h₀ [] h₀) (X : (hd.heap_39 w.params).In h₀) (T : Top p loose mean mg mb h₀) (F : Fr h₀ L s.heap m) (N : News h₀ L s.heap Gl)
    (hr5 : radix = 2 ∨ radix = 8 ∨ radix = 16 ∨ radix = 10 ∨ radix = 36) (hm1 : m (Str.ofString "_law_radix") = some (.int radix tr))
    (ret : ∀ h' tk' m' x ts, Kn [Str.ofString "_law_head"] m m' → m' (Str.ofString "_law_head") = some (.str x ts) → x = KStt.txt (headL radix) → Fr h₀ L h' m' → News h₀ L h' Gl → Q .next { s with heap := h', toks := tk' }) :
    wpAny (model prog w) (lawA L fa cd) (exec (stm 5) (lawEnv L fa cd)) Q (fun _ _ => False) s := by
  show wpAny _ _ (exec (.Assign _ _ _) _) _ _ _
  k_extra "my law"
  rw [m_at hm1] at F
  rcases hr5 with rfl | rfl | rfl | rfl | rfl
  all_goals k_steps
  all_goals k_extra "my end"
end
end PartNU
section PartNV
theorem txt_app (l r : List Int) : KStt.txt l ++ KStt.txt r = KStt.txt (l ++ r) := by
  refine PySem.Str.ext' (Array.toList_inj.mp ?_)
  rw [PySem.Str.cps_append, Array.toList_append]
  show l.map Int.toNat ++ r.map Int.toNat = (l ++ r).map Int.toNat
  rw [List.map_append]
/-- a sign, great -/
def upC (c : Int) : Int := if 97 ≤ c ∧ c ≤ 122 then c - 32 else c
theorem up_txt {l : List Int} (h : ∀ x ∈ l, 0 ≤ x ∧ x < 128) : Txt.upper (KStt.txt l) = KStt.txt (l.map upC) := by
  have hA : ∀ c ∈ (KStt.txt l).cps.toList, c < 128 := by
    intro c hc
    rw [txt_toList] at hc
    obtain ⟨x, hx, rfl⟩ := List.mem_map.mp hc
    have := h x hx
    omega
  rw [upper_ascii hA]
  refine PySem.Str.ext' (Array.toList_inj.mp ?_)
  rw [txt_toList, List.map_map]
  show ((KStt.txt l).cps.map up1).toList = _
  rw [Array.toList_map, txt_toList, List.map_map]
  refine List.map_congr_left fun x hx => ?_
  have := h x hx
  show up1 x.toNat = (upC x).toNat
  unfold up1 upC
  split <;> split <;> omega
theorem mul_zero3 : ∀ n : Nat, n < 3 → Txt.mul (Str.ofString "0") n = KStt.txt (List.replicate n 48) := by decide +kernel
section
variable {prog : Program} {w : World} {A : Around} {E : Value → Shared → Prop} {s : Shared} {Q : Value → Shared → Prop} {t u : Tok}
theorem add_txt {l r : List Int} (hs : l.length + r.length ≤ 200000) (h : ∀ t' k, Q (.str (KStt.txt (l ++ r)) t') { s with toks := k }) : wpAny (model prog w) A (binaryOp .Add (.str (KStt.txt l) t) (.str (KStt.txt r) u)) Q E s :=
  SB.add (fun t' k => by rw [txt_app]; exact h t' k) (by rw [txt_len, txt_len, sizeLine_eq]; omega)
theorem mul_noughts {z : Int} (h0 : 0 ≤ z) (h1 : z < 3) (h : ∀ t' k, Q (.str (KStt.txt (List.replicate z.toNat 48)) t') { s with toks := k }) : wpAny (model prog w) A (binaryOp .Mult (.str (Str.ofString "0") t) (.int z u)) Q E s :=
  KXi.mul (n := 1) (by decide +kernel) (by decide) (by omega) (by omega) fun t' k _ _ => by
    have e := mul_zero3 z.toNat (by omega)
    rw [Int.toNat_of_nonneg h0] at e
    rw [e]
    exact h t' k
theorem upper_call {l : List Int} (hok : ∀ x ∈ l, 0 ≤ x ∧ x < 128) (hf : l.length ≤ 100000) (h : ∀ t' k, Q (.str (KStt.txt (l.map upC)) t') { s with toks := k }) :
    wpAny (model prog w) A (call (.builtin "str.upper") [.str (KStt.txt l) t]) Q E s :=
  SCL.upper (by rw [txt_len]; omega) fun _ => by rw [up_txt hok]; exact h _ _
end
theorem word_53 : True := by
  k_with_none
  (k_with "my kp" => (first | exact Kn.refl _ _ | (refine' Kn.at (by assumption) ?kk; (case kk => k_extra "my kp")) | (refine' Kn.set (by decide +kernel) ?kk; (case kk => k_extra "my kp")) | (refine' Kn.setf (by decide +kernel) ?kk; (case kk => k_extra "my kp")) | (refine' Kn.cont (by decide +kernel) ?kk; (case kk => k_extra "my kp"))))
  (k_with "my sub" => (first | (refine' List.forall_mem_cons.mpr ⟨?ma, ?mb⟩; (case ma => k_mem); (case mb => k_extra "my sub")) | exact List.forall_mem_nil _ | (intro q hq; repeat (first | exact hq | refine List.Mem.tail _ ?_))))
  (k_with "my laws" => (show wpAny _ _ (execs _ (envOf _ ⟨_, _, _, _, _⟩ _ _ _)) _ _ _))
  (k_with "my law" => (show wpAny _ _ (exec _ (envOf _ ⟨_, _, _, _, _⟩ _ _ _)) _ _ _))
  trivial
section
variable {prog : Program} {w : World} {p : Program} {loose : List Str} {mean : ExcName → Option Value} {mg mb : Str → Option Value} {A₀ : Around} {h₀ : Heap} {L fa C D G : Addr} {cd : Value} {m : Str → Option Value} {s : Shared} {Q : Flow → Shared → Prop} {E : Value → Shared → Prop} {own : Ledger} {vs : List Value} {cs : List Int} {nC : Nat} {mm : Int} {t : Tok} {nD : Nat}
theorem word_54 : True := by
  (k_with "my e0" => (((case ho | hcd => k_is); (case hr => decide); (case hb => first | exact fun s X => BindsTo.of_eq rfl | exact fun s X => binds_K X rfl (by k_is) rfl rfl rfl); (case hl => exact locs rfl); (case c1 | c2 | c3 => exact rfl); (case c4 => decide))))
  (k_with "my enter" => ((k_dflt (refine' spec_of ?ho ?hcd ?hr ?hb ?hl ?c1 ?c2 ?c3 ?c4 ?_; k_extra "my e0"))))
  (k_with "my enterR" => ((k_dflt (refine' specR_of ?ho ?hcd ?hr ?hb ?hl ?c1 ?c2 ?c3 ?c4 ?_; k_extra "my e0"))))
  (k_with "my rst" => (first | exact Rst.nil | exact Rst.all (fun _ _ => List.not_mem_nil) | exact Rst.all hown9 | (refine' Rst.drop ?ra ?rb; (case ra => k_extra "my in"); (case rb => k_extra "my rst")) | (refine' Rst.keep ?ra ?rb; (case ra => k_extra "my notin"); (case rb => k_extra "my rst"))))
  (k_with "my c1" => (((case a1 | a2 | a3 => exact rfl); (case a4 | a5 => exact Nat.le_of_ble_eq_true rfl))))
  (k_with "my c2" => (((case a7 => first | exact rfl | assumption); (case B | F | X | N | T => k_asm))))
  (k_with "my c4" => ((k_extra "my c1"; (case a6 => exact rfl); k_extra "my c2")))
  (k_with "my c3" => (((case hn => k_extra "my mem"); (case has => exact rfl); (case hr => k_extra "my rst"))))
  (k_with "eval Constant int" => ((refine wpAny_Constant_int ?_; (try dsimp only))))
  (k_with "evalPairs" => ((first | (refine pairTrees_cons_walk ?_; (try dsimp only)) | (refine pairTrees_nil_walk ?_; (try dsimp only)))))
  (k_with "my mem" => (first | exact List.forall_mem_nil _ | (refine' List.forall_mem_cons.mpr ⟨?ma, ?mb⟩; (case ma => k_mem); (case mb => k_extra "my mem"))))
  (k_with "my notin" => (first | exact List.not_mem_nil | (refine' notin_cons ?na ?nb; (case na => ((try dsimp only); first | k_extra "my ne" | omega)); (case nb => k_extra "my notin"))))
  (k_with "my in" => (first | exact List.Mem.head _ | (refine' List.Mem.tail _ ?_; k_extra "my in")))
  (k_with "my post" => (((try k_sweep); (try dsimp only); (try k_fold))))
  (k_with "my pre" => ((first | omega | (simp only [bne_iff_ne, ne_eq, beq_iff_eq, decide_eq_true_eq, Bool.not_eq_true'] ; omega))))
  (k_with "ite" => (first | (k_openite; goal_has Mine.codeAt; first | (refine ite_pos (by k_extra "my pre") ?_; walk_say "MINE") | (refine ite_neg (by k_extra "my pre") ?_; walk_say "MINE")) | (k_closed; first | (refine ite_pos (by decide) ?_; walk_say "MINEC") | (refine ite_neg (by decide) ?_; walk_say "MINEC"))))
  (k_with "WhlIf" => ((goal_has Mine.codeAt; first | (refine WhlIf.yes (by (simp only [bne_iff_ne, ne_eq, beq_iff_eq, decide_eq_true_eq, Bool.not_eq_true', Bool.and_eq_true] ; omega)) ?_; walk_say "MINE") | (refine WhlIf.no (by (simp only [bne_eq_false_iff_eq, beq_eq_false_iff_ne, ne_eq, decide_eq_false_iff_not, Bool.and_eq_false_iff] ; omega)) ?_; walk_say "MINE"))))
  (k_with "call ref" => ((k_here; first | ((with_reducible show wpAny _ _ (call (Value.ref 356) _) _ _ _); k_dflt ((show wpAny _ _ (call (Value.ref 356) [Value.ref _, Value.int _ _]) _ _ _); refine' spec_use' (draw_spec (C := C) (D := D) ?p0 ?hi ?hok ?h1 ?h2) ?a1 ?a2 ?a3 ?a4 ?a5 ?a6 ?a7 ?B ?F ?X ?N ?T ?hn ?has ?hr ?_; k_extra "my c4"; (case p0 => assumption); k_extra "my c3"; (case hi | hok => assumption); (case h1 | h2 => omega); k_whole; intro v9 nn9 h9 tk9 hP9 F9 N9 fr9; (obtain ⟨x9, tx9, vs9, cs9, nC9, mm9, tt9, nD9, rfl, rfl, hx0, hx1, hi9, hok9⟩ := hP9); (simp only [List.cons_append, List.nil_append] at N9); k_extra "my post")))))
  trivial
theorem dot_txt : Str.ofString "." = KStt.txt [46] := by decide +kernel
theorem word_55 : True := by
  (k_with "call builtin:str.upper" => ((k_dflt (refine' upper_call hasc (by omega) ?_; intro t8 k8))))
  (k_with "binaryOp Mult str int" => ((k_dflt (refine' mul_noughts hx0 hx1 ?_; intro t8 k8))))
  (k_with "binaryOp Add str str" => ((k_dflt (first | rw [Mine.dot_txt] | rw [s_empty] | (refine' add_txt (by ((try simp only [List.length_append, List.length_replicate, List.length_map, List.length_cons, List.length_nil]); omega)) ?_; intro t8 k8)))))
  (k_with "my e6" => (((case zF | zN => assumption); (case zs => k_extra "my sub"); (case zk => k_extra "my kp"); (case z1 => exact rfl); (case zi | zo => assumption))))
  (k_with "my end6" => ((refine' ret _ _ _ _ _ _ _ _ _ _ _ _ ?zk ?zl hx0 hx1 ?z1 ?zF (cb_drop ?zN ?zs) ?zi ?zo; k_extra "my e6"; (case zl => first | exact .inl rfl | exact .inr rfl))))
  (k_with "my end7" => ((refine' ret _ _ _ _ _ _ _ _ _ _ _ ?zk ?zl ?z1 ?zF (cb_drop ?zN ?zs) ?zi ?zo; k_extra "my e6"; (case zl => first | exact .inl rfl | exact .inr ⟨by assumption, rfl⟩))))
  trivial
set_option maxRecDepth 100000 in
set_option maxHeartbeats 1500000 in
theorem stm6_spec {t1 t2 t3 : Tok} {l1 l2 l3 : List Int} {great : Bool} {fs : List Value} {nG : Nat} (B : Below A₀ h₀ [] h₀) (X : (hd.heap_39 w.params).In h₀) (T : Top p loose mean mg mb h₀) (F : Fr h₀ L s.heap m) (N : News h₀ L s.heap ((G, listOf fs.toArray nG) :: (C, listOf vs.toArray nC) :: (D, listOf #[.ref C, .int mm t] nD) :: own)) (hown9 : ∀ p ∈ own, p.1 ∉ [C, D]) (hne : @Ne Nat C D) (hGC : @Ne Nat G C) (hGD : @Ne Nat G D) (hi : IntsAre vs cs) (hok : DeckOk cs mm)
    (hl1 : l1.length ≤ 10) (hl2 : l2.length ≤ 10) (hl3 : l3.length ≤ 50000) (hasc : ∀ x ∈ l3, 0 ≤ x ∧ x < 128)
    (hm0 : m (Str.ofString "_law_deck_here") = some (.ref D)) (hm2 : m (Str.ofString "_law_head") = some (.str (KStt.txt l1) t1)) (hm3 : m (Str.ofString "_law_sign") = some (.str (KStt.txt l2) t2)) (hm4 : m (Str.ofString "_law_signs") = some (.str (KStt.txt l3) t3)) (hm5 : m (Str.ofString "_law_is_great") = some (.bool great))
    (ret : ∀ h' tk' m' (z : Int) l4 tx vs' cs' nC' mm' t' nD', Kn [Str.ofString "_law_text"] m m' → (l4 = l3 ∨ l4 = l3.map upC) → 0 ≤ z → z < 3 → m' (Str.ofString "_law_text") = some (.str (KStt.txt (l1 ++ l2 ++ List.replicate z.toNat 48 ++ l4)) tx) → Fr h₀ L h' m' → News h₀ L h' ((G, listOf fs.toArray nG) :: (C, listOf vs'.toArray nC') :: (D, listOf #[.ref C, .int mm' t'] nD') :: own) → IntsAre vs' cs' → DeckOk cs' mm' → Q .next { s with heap := h', toks := tk' }) :
    wpAny (model prog w) (lawA L fa cd) (exec (stm 6) (lawEnv L fa cd)) Q (fun _ _ => False) s := by
  show wpAny _ _ (exec (.Assign _ _ _) _) _ _ _
  k_extra "my law"
  rw [m_at hm0, m_at hm2, m_at hm3, m_at hm4, m_at hm5] at F
  k_steps
  all_goals k_extra "my end6"
set_option maxRecDepth 100000 in
set_option maxHeartbeats 1500000 in
theorem stm7_spec {radix : Int} {tr t1 : Tok} {l : List Int} {fs : List Value} {nG : Nat} (B : Below A₀ h₀ [] h₀) (X : (hd.heap_39 w.params).In h₀) (T : Top p loose mean mg mb h₀) (F : Fr h₀ L s.heap m) (N : News h₀ L s.heap ((G, listOf fs.toArray nG) :: (C, listOf vs.toArray nC) :: (D, listOf #[.ref C, .int mm t] nD) :: own)) (hown9 : ∀ p ∈ own, p.1 ∉ [C, D]) (hne : @Ne Nat C D) (hGC : @Ne Nat G C) (hGD : @Ne Nat G D) (hi : IntsAre vs cs) (hok : DeckOk cs mm)
    (hl1 : l.length ≤ 60000)
    (hm0 : m (Str.ofString "_law_deck_here") = some (.ref D)) (hm1 : m (Str.ofString "_law_radix") = some (.int radix tr)) (hm2 : m (Str.ofString "_law_text") = some (.str (KStt.txt l) t1))
    (ret : ∀ h' tk' m' pt tx vs' cs' nC' mm' t' nD', Kn [Str.ofString "_law_text"] m m' → (pt = [] ∨ radix = 10 ∧ pt = [46]) → m' (Str.ofString "_law_text") = some (.str (KStt.txt (l ++ pt)) tx) → Fr h₀ L h' m' → News h₀ L h' ((G, listOf fs.toArray nG) :: (C, listOf vs'.toArray nC') :: (D, listOf #[.ref C, .int mm' t'] nD') :: own) → IntsAre vs' cs' → DeckOk cs' mm' → Q .next { s with heap := h', toks := tk' }) :
    wpAny (model prog w) (lawA L fa cd) (exec (stm 7) (lawEnv L fa cd)) Q (fun _ _ => False) s := by
  show wpAny _ _ (exec (.Assign _ _ _) _) _ _ _
  k_extra "my law"
  rw [m_at hm0, m_at hm1, m_at hm2] at F
  k_steps
  all_goals k_extra "my end7"
end
end PartNV
section PartNW
theorem word_56 : True := by
  k_with_none
  (k_with "my kp" => (first | exact Kn.refl _ _ | (refine' Kn.at (by assumption) ?kk; (case kk => k_extra "my kp")) | (refine' Kn.set (by decide +kernel) ?kk; (case kk => k_extra "my kp")) | (refine' Kn.setf (by decide +kernel) ?kk; (case kk => k_extra "my kp")) | (refine' Kn.cont (by decide +kernel) ?kk; (case kk => k_extra "my kp"))))
  (k_with "my sub" => (first | (refine' List.forall_mem_cons.mpr ⟨?ma, ?mb⟩; (case ma => k_mem); (case mb => k_extra "my sub")) | exact List.forall_mem_nil _ | (intro q hq; repeat (first | exact hq | refine List.Mem.tail _ ?_))))
  (k_with "my laws" => (show wpAny _ _ (execs _ (envOf _ ⟨_, _, _, _, _⟩ _ _ _)) _ _ _))
  (k_with "my law" => (show wpAny _ _ (exec _ (envOf _ ⟨_, _, _, _, _⟩ _ _ _)) _ _ _))
  trivial
section
variable {prog : Program} {w : World} {p : Program} {loose : List Str} {mean : ExcName → Option Value} {mg mb : Str → Option Value} {A₀ : Around} {h₀ : Heap} {L fa C D G : Addr} {cd : Value} {m : Str → Option Value} {s : Shared} {Q : Flow → Shared → Prop} {E : Value → Shared → Prop} {own : Ledger} {vs : List Value} {cs : List Int} {nC : Nat} {mm : Int} {t : Tok} {nD : Nat}
theorem word_57 : True := by
  (k_with "my e0" => (((case ho | hcd => k_is); (case hr => decide); (case hb => first | exact fun s X => BindsTo.of_eq rfl | exact fun s X => binds_K X rfl (by k_is) rfl rfl rfl); (case hl => exact locs rfl); (case c1 | c2 | c3 => exact rfl); (case c4 => decide))))
  (k_with "my enter" => ((k_dflt (refine' spec_of ?ho ?hcd ?hr ?hb ?hl ?c1 ?c2 ?c3 ?c4 ?_; k_extra "my e0"))))
  (k_with "my enterR" => ((k_dflt (refine' specR_of ?ho ?hcd ?hr ?hb ?hl ?c1 ?c2 ?c3 ?c4 ?_; k_extra "my e0"))))
  (k_with "my rst" => (first | exact Rst.nil | exact Rst.all (fun _ _ => List.not_mem_nil) | exact Rst.all hown9 | (refine' Rst.drop ?ra ?rb; (case ra => k_extra "my in"); (case rb => k_extra "my rst")) | (refine' Rst.keep ?ra ?rb; (case ra => k_extra "my notin"); (case rb => k_extra "my rst"))))
  (k_with "my c1" => (((case a1 | a2 | a3 => exact rfl); (case a4 | a5 => exact Nat.le_of_ble_eq_true rfl))))
  (k_with "my c2" => (((case a7 => first | exact rfl | assumption); (case B | F | X | N | T => k_asm))))
  (k_with "my c4" => ((k_extra "my c1"; (case a6 => exact rfl); k_extra "my c2")))
  (k_with "my c3" => (((case hn => k_extra "my mem"); (case has => exact rfl); (case hr => k_extra "my rst"))))
  (k_with "eval Constant int" => ((refine wpAny_Constant_int ?_; (try dsimp only))))
  (k_with "evalPairs" => ((first | (refine pairTrees_cons_walk ?_; (try dsimp only)) | (refine pairTrees_nil_walk ?_; (try dsimp only)))))
  (k_with "my mem" => (first | exact List.forall_mem_nil _ | (refine' List.forall_mem_cons.mpr ⟨?ma, ?mb⟩; (case ma => k_mem); (case mb => k_extra "my mem"))))
  (k_with "my notin" => (first | exact List.not_mem_nil | (refine' notin_cons ?na ?nb; (case na => ((try dsimp only); first | k_extra "my ne" | omega)); (case nb => k_extra "my notin"))))
  (k_with "my in" => (first | exact List.Mem.head _ | (refine' List.Mem.tail _ ?_; k_extra "my in")))
  (k_with "my post" => (((try k_sweep); (try dsimp only); (try k_fold))))
  (k_with "my pre" => ((first | omega | (simp only [bne_iff_ne, ne_eq, beq_iff_eq, decide_eq_true_eq, Bool.not_eq_true'] ; omega))))
  (k_with "ite" => (first | (k_openite; goal_has Mine.codeAt; first | (refine ite_pos (by k_extra "my pre") ?_; walk_say "MINE") | (refine ite_neg (by k_extra "my pre") ?_; walk_say "MINE")) | (k_closed; first | (refine ite_pos (by decide) ?_; walk_say "MINEC") | (refine ite_neg (by decide) ?_; walk_say "MINEC"))))
  (k_with "WhlIf" => ((goal_has Mine.codeAt; first | (refine WhlIf.yes (by (simp only [bne_iff_ne, ne_eq, beq_iff_eq, decide_eq_true_eq, Bool.not_eq_true', Bool.and_eq_true] ; omega)) ?_; walk_say "MINE") | (refine WhlIf.no (by (simp only [bne_eq_false_iff_eq, beq_eq_false_iff_ne, ne_eq, decide_eq_false_iff_not, Bool.and_eq_false_iff] ; omega)) ?_; walk_say "MINE"))))
  (k_with "my end8" => (( refine' ret _ _ _ _ ?zk ?z1 ?zF (cb_drop ?zN ?zs); (case zF => assumption); (case zN => assumption); (case zs => k_extra "my sub"); (case zk => k_extra "my kp"); (case z1 => exact rfl))))
  (k_with "my end9" => (( refine' ret _ _ _ _ _ _ _ _ ?zk ?z1 ?zF (cb_drop ?zN ?zs); (case zF => assumption); (case zN => assumption); (case z1 => exact rfl); (case zs => k_extra "my sub"); (case zk => k_extra "my kp"))))
  trivial
set_option maxRecDepth 100000 in
set_option maxHeartbeats 1500000 in
theorem stm8_big {worth : Int} {tw : Tok} {Gl : Ledger} (B : Below A₀ h₀ [] h₀) (X : (hd.heap_39 w.params).In h₀) (T : Top p loose mean mg mb h₀) (F : Fr h₀ L s.heap m) (N : News h₀ L s.heap Gl)
    (hbig : 65536 < Builtin.Int.intBits worth) (hm1 : m (Str.ofString "_law_worth") = some (.int worth tw))
    (ret : ∀ h' tk' m' ts, Kn [Str.ofString "_law_due"] m m' → m' (Str.ofString "_law_due") = some (.str (Str.ofString "overflow-error") ts) → Fr h₀ L h' m' → News h₀ L h' Gl → Q .next { s with heap := h', toks := tk' }) :
    wpAny (model prog w) (lawA L fa cd) (exec (stm 8) (lawEnv L fa cd)) Q (fun _ _ => False) s := by
  show wpAny _ _ (exec (.Assign _ _ _) _) _ _ _
  k_extra "my law"
  rw [m_at hm1] at F
  k_steps
  k_extra "my end8"
set_option maxRecDepth 100000 in
set_option maxHeartbeats 1500000 in
theorem stm8_ok {worth : Int} {sl : List Int} {tw ts : Tok} {Gl : Ledger} (B : Below A₀ h₀ [] h₀) (X : (hd.heap_39 w.params).In h₀) (T : Top p loose mean mg mb h₀) (F : Fr h₀ L s.heap m) (N : News h₀ L s.heap Gl)
    (hsm : Builtin.Int.intBits worth ≤ 65536) (hsl : sl = [] ∨ sl = [45] ∨ sl = [43]) (hm1 : m (Str.ofString "_law_worth") = some (.int worth tw)) (hm2 : m (Str.ofString "_law_sign") = some (.str (KStt.txt sl) ts))
    (ret : ∀ h' tk' m' T t1 t2 t3 k, Kn [Str.ofString "_law_due"] m m' → m' (Str.ofString "_law_due") = some (.ref T) → Fr h₀ L h' m' → News h₀ L h' ((T, intT (if sl = [45] then 0 - worth else worth) t1 t2 (.int 0 t3) k) :: Gl) → Q .next { s with heap := h', toks := tk' }) :
    wpAny (model prog w) (lawA L fa cd) (exec (stm 8) (lawEnv L fa cd)) Q (fun _ _ => False) s := by
  show wpAny _ _ (exec (.Assign _ _ _) _) _ _ _
  k_extra "my law"
  rw [m_at hm1, m_at hm2] at F
  rcases hsl with rfl | rfl | rfl
  · rw [← s_empty] at F
    k_steps
    k_extra "my end9"
  · rw [← s_minus] at F
    k_steps
    k_extra "my end9"
  · rw [← s_plus] at F
    k_steps
    k_extra "my end9"
end
end PartNW
section PartNX
theorem word_58 : True := by
  k_with_none
  (k_with "my kp" => (first | exact Kn.refl _ _ | (refine' Kn.at (by assumption) ?kk; (case kk => k_extra "my kp")) | (refine' Kn.set (by decide +kernel) ?kk; (case kk => k_extra "my kp")) | (refine' Kn.setf (by decide +kernel) ?kk; (case kk => k_extra "my kp")) | (refine' Kn.cont (by decide +kernel) ?kk; (case kk => k_extra "my kp"))))
  (k_with "my sub" => (first | (refine' List.forall_mem_cons.mpr ⟨?ma, ?mb⟩; (case ma => k_mem); (case mb => k_extra "my sub")) | exact List.forall_mem_nil _ | (intro q hq; repeat (first | exact hq | refine List.Mem.tail _ ?_))))
  (k_with "my laws" => (show wpAny _ _ (execs _ (envOf _ ⟨_, _, _, _, _⟩ _ _ _)) _ _ _))
  (k_with "my law" => (show wpAny _ _ (exec _ (envOf _ ⟨_, _, _, _, _⟩ _ _ _)) _ _ _))
  trivial
section
variable {prog : Program} {w : World} {p : Program} {loose : List Str} {mean : ExcName → Option Value} {mg mb : Str → Option Value} {A₀ : Around} {h₀ : Heap} {L fa C D G : Addr} {cd : Value} {m : Str → Option Value} {s : Shared} {Q : Flow → Shared → Prop} {E : Value → Shared → Prop} {own : Ledger} {vs : List Value} {cs : List Int} {nC : Nat} {mm : Int} {t : Tok} {nD : Nat}
theorem word_59 : True := by
  (k_with "my e0" => (((case ho | hcd => k_is); (case hr => decide); (case hb => first | exact fun s X => BindsTo.of_eq rfl | exact fun s X => binds_K X rfl (by k_is) rfl rfl rfl); (case hl => exact locs rfl); (case c1 | c2 | c3 => exact rfl); (case c4 => decide))))
  (k_with "my enter" => ((k_dflt (refine' spec_of ?ho ?hcd ?hr ?hb ?hl ?c1 ?c2 ?c3 ?c4 ?_; k_extra "my e0"))))
  (k_with "my enterR" => ((k_dflt (refine' specR_of ?ho ?hcd ?hr ?hb ?hl ?c1 ?c2 ?c3 ?c4 ?_; k_extra "my e0"))))
  (k_with "my rst" => (first | exact Rst.nil | exact Rst.all (fun _ _ => List.not_mem_nil) | exact Rst.all hown9 | (refine' Rst.drop ?ra ?rb; (case ra => k_extra "my in"); (case rb => k_extra "my rst")) | (refine' Rst.keep ?ra ?rb; (case ra => k_extra "my notin"); (case rb => k_extra "my rst"))))
  (k_with "my c1" => (((case a1 | a2 | a3 => exact rfl); (case a4 | a5 => exact Nat.le_of_ble_eq_true rfl))))
  (k_with "my c2" => (((case a7 => first | exact rfl | assumption); (case B | F | X | N | T => k_asm))))
  (k_with "my c4" => ((k_extra "my c1"; (case a6 => exact rfl); k_extra "my c2")))
  (k_with "my c3" => (((case hn => k_extra "my mem"); (case has => exact rfl); (case hr => k_extra "my rst"))))
  (k_with "eval Constant int" => ((refine wpAny_Constant_int ?_; (try dsimp only))))
  (k_with "evalPairs" => ((first | (refine pairTrees_cons_walk ?_; (try dsimp only)) | (refine pairTrees_nil_walk ?_; (try dsimp only)))))
  (k_with "my mem" => (first | exact List.forall_mem_nil _ | (refine' List.forall_mem_cons.mpr ⟨?ma, ?mb⟩; (case ma => k_mem); (case mb => k_extra "my mem"))))
  (k_with "my notin" => (first | exact List.not_mem_nil | (refine' notin_cons ?na ?nb; (case na => ((try dsimp only); first | k_extra "my ne" | omega)); (case nb => k_extra "my notin"))))
  (k_with "my in" => (first | exact List.Mem.head _ | (refine' List.Mem.tail _ ?_; k_extra "my in")))
  (k_with "my post" => (((try k_sweep); (try dsimp only); (try k_fold))))
  (k_with "my pre" => ((first | omega | (simp only [bne_iff_ne, ne_eq, beq_iff_eq, decide_eq_true_eq, Bool.not_eq_true'] ; omega))))
  (k_with "ite" => (first | (k_openite; goal_has Mine.codeAt; first | (refine ite_pos (by k_extra "my pre") ?_; walk_say "MINE") | (refine ite_neg (by k_extra "my pre") ?_; walk_say "MINE")) | (k_closed; first | (refine ite_pos (by decide) ?_; walk_say "MINEC") | (refine ite_neg (by decide) ?_; walk_say "MINEC"))))
  (k_with "WhlIf" => ((goal_has Mine.codeAt; first | (refine WhlIf.yes (by (simp only [bne_iff_ne, ne_eq, beq_iff_eq, decide_eq_true_eq, Bool.not_eq_true', Bool.and_eq_true] ; omega)) ?_; walk_say "MINE") | (refine WhlIf.no (by (simp only [bne_eq_false_iff_eq, beq_eq_false_iff_ne, ne_eq, decide_eq_false_iff_not, Bool.and_eq_false_iff] ; omega)) ?_; walk_say "MINE"))))
  (k_with "call ref" => ((k_here; first | ((with_reducible show wpAny _ _ (call (Value.ref 373) _) _ _ _); k_dflt ((show wpAny _ _ (call (Value.ref 373) [Value.str _ _]) _ _ _); refine' spec_use' (S _) ?a1 ?a2 ?a3 ?a4 ?a5 ?a6 ?a7 ?B ?F ?X ?N ?T ?hn ?has ?hr ?_; k_extra "my c4"; k_extra "my c3"; k_whole; intro v9 nn9 h9 tk9 hP9 F9 N9 fr9; (obtain ⟨T9, t9, t09, ts9, k9, rfl, rfl⟩ := hP9); (simp only [List.cons_append, List.nil_append] at N9); k_extra "my post")))))
  trivial
set_option maxRecDepth 100000 in
set_option maxHeartbeats 1500000 in
theorem stm9_ok {l : List Int} {val : Int} {tx t1 t2 t3 : Tok} {V : Addr} {k : Nat} {Gl : Ledger} (B : Below A₀ h₀ [] h₀) (X : (hd.heap_39 w.params).In h₀) (T : Top p loose mean mg mb h₀) (F : Fr h₀ L s.heap m) (N : News h₀ L s.heap ((V, intT val t1 t2 (.int 0 t3) k) :: Gl))
    (S : ∀ t, Spec prog w (hd.heap_39 w.params) 605 6050 373 [.str (KStt.txt l) t] [] (fun v nn => ∃ T t t0 ts k, v = .ref T ∧ nn = [(T, intT val t t0 (.int 0 ts) k)]))
    (hm1 : m (Str.ofString "_law_text") = some (.str (KStt.txt l) tx)) (hm2 : m (Str.ofString "_law_due") = some (.ref V))
    (ret : ∀ h' tk', Fr h₀ L h' m → News h₀ L h' Gl → Q .next { s with heap := h', toks := tk' }) :
    wpAny (model prog w) (lawA L fa cd) (exec (stm 9) (lawEnv L fa cd)) Q (fun _ _ => False) s := by
  show wpAny _ _ (exec (.If _ _ _ _) _) _ _ _
  k_extra "my law"
  obtain ⟨m1, hmm⟩ : ∃ m1, m1 = m := ⟨_, rfl⟩
  rw [← hmm] at ret
  rw [m_at hm1, m_at hm2] at F
  k_steps
  refine ret _ _ ?_ (cb_drop (by assumption) (by k_extra "my sub"))
  rw [hmm, m_at hm1, m_at hm2]
  assumption
theorem specX_use {K : Frag} {D U : Nat} {f : Addr} {args : List Value} {P : Value → Prop} {env : Env} {A : Around} {Q E : Value → Shared → Prop} {news : Ledger}
    (S : SpecX prog w K D U f args P) (a1 : A.handled = none) (a2 : A.frames = some [env]) (a3 : A.guards = some []) (a4 : A.depth ≤ D) (a5 : A.units ≤ U) (a6 : env.frame = some L) (a7 : env.scope.kind = .function)
    (B : Below A₀ h₀ [] h₀) (F : Fr h₀ L s.heap m) (X : K.In h₀) (N : News h₀ L s.heap news) (T : Top p loose mean mg mb h₀)
    (ret : ∀ v h' tk', P v → Fr h₀ L h' m → News h₀ L h' news → Q v { s with heap := h', toks := tk' }) : wpAny (model prog w) A (call (.ref f) args) Q E s :=
  S p loose mean mg mb env A₀ A h₀ L m s Q E news a1 a2 a3 a4 a5 a6 a7 B F X N T ret
theorem word_60 : True := by
  (k_with "call ref" => ((k_here; (with_reducible show wpAny _ _ (call (Value.ref 373) _) _ _ _); k_dflt ((show wpAny _ _ (call (Value.ref 373) [Value.str _ _]) _ _ _); refine' specX_use (S _) ?a1 ?a2 ?a3 ?a4 ?a5 ?a6 ?a7 ?B ?F ?X ?N ?T ?_; (case a1 => exact rfl); (case a2 => exact rfl); (case a3 => exact rfl); (case a4 => exact Nat.le_of_ble_eq_true rfl); (case a5 => exact Nat.le_of_ble_eq_true rfl); (case a6 => exact rfl); (case a7 => first | exact rfl | assumption); (case B => k_asm); (case F => k_asm); (case X => k_asm); (case N => k_asm); (case T => k_asm); k_whole; intro v9 h9 tk9 hP9 F9 N9; obtain ⟨t9, rfl⟩ := hP9; (try k_sweep); (try dsimp only); (try k_fold)))))
  trivial
set_option maxRecDepth 100000 in
set_option maxHeartbeats 1500000 in
theorem stm9_big {l : List Int} {tx t1 : Tok} {Gl : Ledger} (B : Below A₀ h₀ [] h₀) (X : (hd.heap_39 w.params).In h₀) (T : Top p loose mean mg mb h₀) (F : Fr h₀ L s.heap m) (N : News h₀ L s.heap Gl)
    (S : ∀ t, SpecX prog w (hd.heap_39 w.params) 605 6050 373 [.str (KStt.txt l) t] (fun v => ∃ t, v = .str (Str.ofString "overflow-error") t))
    (hm1 : m (Str.ofString "_law_text") = some (.str (KStt.txt l) tx)) (hm2 : m (Str.ofString "_law_due") = some (.str (Str.ofString "overflow-error") t1))
    (ret : ∀ h' tk', Fr h₀ L h' m → News h₀ L h' Gl → Q .next { s with heap := h', toks := tk' }) :
    wpAny (model prog w) (lawA L fa cd) (exec (stm 9) (lawEnv L fa cd)) Q (fun _ _ => False) s := by
  show wpAny _ _ (exec (.If _ _ _ _) _) _ _ _
  k_extra "my law"
  obtain ⟨m1, hmm⟩ : ∃ m1, m1 = m := ⟨_, rfl⟩
  rw [← hmm] at ret
  rw [m_at hm1, m_at hm2] at F
  k_steps
  refine ret _ _ ?_ (cb_drop (by assumption) (by k_extra "my sub"))
  rw [hmm, m_at hm1, m_at hm2]
  assumption
end
end PartNX
section PartPA
/-- the worth of some figures, the greatest first -/
def hor (radix : Int) (figs : List Int) : Int := figs.foldl (fun a f => a * radix + f) 0
theorem hor_snoc (radix : Int) (l : List Int) (f : Int) : hor radix (l ++ [f]) = hor radix l * radix + f := by
  unfold hor
  rw [List.foldl_append]
  rfl
theorem hor_from (radix : Int) : ∀ (l : List Int) (a : Int), l.foldl (fun a f => a * radix + f) a = a * radix ^ l.length + hor radix l
  | [], a => by simp [hor]
  | f :: l, a => by
    have e : hor radix (f :: l) = f * radix ^ l.length + hor radix l := by
      show l.foldl _ (0 * radix + f) = _
      rw [hor_from radix l]
      simp
    rw [List.foldl_cons, hor_from radix l, e, List.length_cons, Int.pow_succ, Int.add_mul, Int.mul_assoc, Int.mul_comm radix, Int.add_assoc]
theorem hor_cons (radix f : Int) (l : List Int) : hor radix (f :: l) = f * radix ^ l.length + hor radix l := by
  show l.foldl _ (0 * radix + f) = _
  rw [hor_from radix l]
  simp
theorem lo_snoc (radix : Int) (l : List Int) (f : Int) : (lo radix (l ++ [f])).1 = (lo radix l).1 + f * (lo radix l).2 := by
  unfold lo
  rw [List.foldl_append]
  rfl
theorem lo_two (radix : Int) (l : List Int) : (lo radix l).2 = radix ^ l.length := by
  unfold lo
  rw [lo_pow, Int.one_mul]
theorem lo_hor (radix : Int) : ∀ l : List Int, (lo radix l.reverse).1 = hor radix l
  | [] => rfl
  | f :: l => by
    rw [List.reverse_cons, lo_snoc, lo_hor radix l, lo_two, List.length_reverse, hor_cons, Int.add_comm]
theorem hor_rep (n : Nat) : hor 16 (List.replicate n 15) = 16 ^ n - 1 := by
  induction n with
  | zero => rfl
  | succ n ih =>
    rw [List.replicate_succ, hor_cons, ih, List.length_replicate, Int.pow_succ]
    omega
theorem hor_wide (x : Int) (n : Nat) : hor 16 (x :: List.replicate n 15) = (x + 1) * 16 ^ n - 1 := by
  rw [hor_cons, hor_rep, List.length_replicate, Int.add_mul, Int.one_mul]
  omega
/-- what is asked of the figures -/
structure Figs (radix : Int) (figs : List Int) : Prop where
  hr : radix = 2 ∨ radix = 8 ∨ radix = 16 ∨ radix = 10 ∨ radix = 36
  hne : figs ≠ []
  hl : figs.length ≤ 20000
  hf : ∀ f ∈ figs, 0 ≤ f ∧ f < radix
theorem figs_of {radix : Int} {figs : List Int} (h : FigOk radix figs) : Figs radix figs := by
  rcases h with ⟨rfl, x, d, hx, hd, rfl⟩ | ⟨hr, h1, h2, h3⟩
  · refine ⟨by omega, by simp, by rw [List.length_cons, List.length_replicate]; omega, fun f hf => ?_⟩
    rcases List.mem_cons.mp hf with rfl | hf
    · omega
    · rw [(List.mem_replicate.mp hf).2]; omega
  · refine ⟨hr, fun e => ?_, by omega, h3⟩
    rw [e] at h1
    cases h1
theorem Figs.r36 {radix : Int} {figs : List Int} (h : Figs radix figs) : 2 ≤ radix ∧ radix ≤ 36 := by
  have := h.hr
  omega
theorem Figs.f36 {radix : Int} {figs : List Int} (h : Figs radix figs) : ∀ f ∈ figs, 0 ≤ f ∧ f < 36 := fun f hf => by
  have h1 := h.hf f hf
  have h2 := h.r36
  omega
theorem figC_figD {f : Int} (h0 : 0 ≤ f) (h1 : f < 36) : figC (figD f) = f := by
  unfold figC figD
  split <;> split <;> omega
theorem lo_figD {f : Int} (h0 : 0 ≤ f) (h1 : f < 36) : loC (figD f) = figD f := by
  unfold loC figD
  split <;> split <;> omega
theorem lo_up {f : Int} (h0 : 0 ≤ f) (h1 : f < 36) : loC (upC (figD f)) = figD f := by
  unfold loC upC figD
  repeat' split
  all_goals omega
/-- a sign that a figure may be written as -/
def isFig (c : Int) : Prop := (48 ≤ c ∧ c ≤ 57) ∨ (65 ≤ c ∧ c ≤ 90) ∨ (97 ≤ c ∧ c ≤ 122)
theorem isFig_figD {f : Int} (h0 : 0 ≤ f) (h1 : f < 36) : isFig (figD f) := by
  unfold isFig figD
  split <;> omega
theorem isFig_up {f : Int} (h0 : 0 ≤ f) (h1 : f < 36) : isFig (upC (figD f)) := by
  unfold isFig upC figD
  repeat' split
  all_goals omega
theorem isFig.ok {c : Int} (h : isFig c) : okc c := by
  unfold isFig at h
  unfold okc
  omega
/-- the figures' signs, small or great -/
def Sgn (figs l4 : List Int) : Prop := l4 = figs.map figD ∨ l4 = (figs.map figD).map upC
section
variable {radix : Int} {figs l4 sl : List Int} {z : Nat}
theorem Sgn.low (h : Sgn figs l4) (hf : ∀ f ∈ figs, 0 ≤ f ∧ f < 36) : l4.map loC = figs.map figD := by
  rcases h with rfl | rfl
  · rw [List.map_map]
    exact List.map_congr_left fun f hm => lo_figD (hf f hm).1 (hf f hm).2
  · rw [List.map_map, List.map_map]
    exact List.map_congr_left fun f hm => lo_up (hf f hm).1 (hf f hm).2
theorem Sgn.fig (h : Sgn figs l4) (hf : ∀ f ∈ figs, 0 ≤ f ∧ f < 36) : ∀ c ∈ l4, isFig c := fun c hc => by
  rcases h with rfl | rfl
  · obtain ⟨f, hm, rfl⟩ := List.mem_map.mp hc
    exact isFig_figD (hf f hm).1 (hf f hm).2
  · rw [List.map_map] at hc
    obtain ⟨f, hm, rfl⟩ := List.mem_map.mp hc
    exact isFig_up (hf f hm).1 (hf f hm).2
theorem Sgn.len (h : Sgn figs l4) : l4.length = figs.length := by
  rcases h with rfl | rfl
  · rw [List.length_map]
  · rw [List.length_map, List.length_map]
theorem Sgn.dig (h : Sgn figs l4) (hf : ∀ f ∈ figs, 0 ≤ f ∧ f < 10) : ∀ c ∈ l4, isDig c := fun c hc => by
  rcases h with rfl | rfl
  · obtain ⟨f, hm, rfl⟩ := List.mem_map.mp hc
    have := hf f hm
    unfold isDig figD
    split <;> omega
  · rw [List.map_map] at hc
    obtain ⟨f, hm, rfl⟩ := List.mem_map.mp hc
    have := hf f hm
    show isDig (upC (figD f))
    unfold isDig upC figD
    repeat' split
    all_goals omega
/-- noughts ahead and figures -/
def bod (z : Nat) (l4 : List Int) : List Int := List.replicate z 48 ++ l4
theorem bod_fig (h : ∀ c ∈ l4, isFig c) : ∀ c ∈ bod z l4, isFig c := fun c hc => by
  rcases List.mem_append.mp hc with hc | hc
  · rw [(List.mem_replicate.mp hc).2]; exact .inl (by omega)
  · exact h c hc
theorem bod_low (h : l4.map loC = figs.map figD) : (bod z l4).map loC = bod z (figs.map figD) := by
  unfold bod
  rw [List.map_append, h, List.map_replicate]
  rfl
theorem val_bod (l : List Int) : valC radix (bod z l) = valC radix l := by
  unfold bod valC
  rw [List.foldl_append]
  congr 1
  induction z with
  | zero => rfl
  | succ n ih =>
    rw [List.replicate_succ, List.foldl_cons]
    have e : (0 : Int) * radix + figC 48 = 0 := by
      rw [Int.zero_mul]
      rfl
    rw [e]
    exact ih
theorem val_figs (hf : ∀ f ∈ figs, 0 ≤ f ∧ f < 36) : valC radix (figs.map figD) = hor radix figs := by
  have key : ∀ (l : List Int) (a : Int), (∀ f ∈ l, 0 ≤ f ∧ f < 36) → (l.map figD).foldl (fun a c => a * radix + figC c) a = l.foldl (fun a f => a * radix + f) a := by
    intro l
    induction l with
    | nil => intro a _; rfl
    | cons f r ih =>
      intro a h
      have h1 := h f (.head _)
      rw [List.map_cons, List.foldl_cons, List.foldl_cons, figC_figD h1.1 h1.2]
      exact ih _ fun x hx => h x (.tail _ hx)
  exact key figs 0 hf
theorem body_sl (hsl : sl = [] ∨ sl = [45] ∨ sl = [43]) {b : List Int} (hb : ∀ c ∈ b, isFig c) : bodyL (sl ++ b) = b := by
  rcases hsl with rfl | rfl | rfl
  · cases b with
    | nil => rfl
    | cons c r =>
      have := hb c (.head _)
      unfold isFig at this
      show (if c = 43 ∨ c = 45 then r else c :: r) = c :: r
      rw [if_neg (by omega)]
  · rfl
  · rfl
end
end PartPA
section PartPB
section
variable {radix : Int} {figs l4 sl : List Int} {z : Nat}
structure Wrd (radix : Int) (figs sl l4 : List Int) (z : Nat) (c : Int) (r : List Int) : Prop where
  hw : sl ++ bod z l4 = c :: r
  hm : c = 45 ↔ sl = [45]
  hc : c = 43 ∨ c = 45 ∨ isFig c
  hok : ∀ x ∈ c :: r, x = 43 ∨ x = 45 ∨ isFig x
  hl : (c :: r).length ≤ 30000
  hb : bodyL (c :: r) = bod z l4
  hbf : ∀ x ∈ bod z l4, isFig x
  hlo : (bod z l4).map loC = bod z (figs.map figD)
  hne : bod z (figs.map figD) ≠ []
  hdg : ∀ x ∈ bod z (figs.map figD), lowdig radix x
  hv : valC radix (bod z (figs.map figD)) = hor radix figs
theorem wrd_of (h : Figs radix figs) (hs : Sgn figs l4) (hsl : sl = [] ∨ sl = [45] ∨ sl = [43]) (hz : z < 3) : ∃ c r, Wrd radix figs sl l4 z c r := by
  have hf := h.f36
  have hfig := bod_fig (z := z) (hs.fig hf)
  have hl4 : l4 ≠ [] := fun e => h.hne (List.eq_nil_of_length_eq_zero (by rw [← hs.len, e]; rfl))
  have hbne : bod z l4 ≠ [] := fun e => hl4 (List.append_eq_nil_iff.mp e).2
  have hbl : (bod z l4).length ≤ 20003 := by
    unfold bod
    rw [List.length_append, List.length_replicate, hs.len]
    have := h.hl
    omega
  have hsll : sl.length ≤ 1 := by rcases hsl with rfl | rfl | rfl <;> decide
  have hwne : sl ++ bod z l4 ≠ [] := fun e => hbne (List.append_eq_nil_iff.mp e).2
  obtain ⟨c, r, hw⟩ : ∃ c r, sl ++ bod z l4 = c :: r := by
    cases e : sl ++ bod z l4 with
    | nil => exact absurd e hwne
    | cons c r => exact ⟨c, r, rfl⟩
  have hok : ∀ x ∈ c :: r, x = 43 ∨ x = 45 ∨ isFig x := by
    rw [← hw]
    intro x hx
    rcases List.mem_append.mp hx with hx | hx
    · rcases hsl with rfl | rfl | rfl
      · cases hx
      · exact .inr (.inl (List.mem_singleton.mp hx))
      · exact .inl (List.mem_singleton.mp hx)
    · exact .inr (.inr (hfig x hx))
  refine ⟨c, r, hw, ?_, hok c (.head _), hok, ?_, ?_, hfig, bod_low (hs.low hf), ?_, ?_, ?_⟩
  · rcases hsl with rfl | rfl | rfl
    · have hc : isFig c := by
        have : c ∈ bod z l4 := by
          have e : bod z l4 = c :: r := hw
          rw [e]; exact .head _
        exact hfig c this
      unfold isFig at hc
      constructor
      · intro e; omega
      · intro e; cases e
    · cases hw
      exact ⟨fun _ => rfl, fun _ => rfl⟩
    · cases hw
      constructor
      · intro e; cases e
      · intro e; cases e
  · rw [← hw, List.length_append]; omega
  · rw [← hw]; exact body_sl hsl hfig
  · intro e
    have := (List.append_eq_nil_iff.mp e).2
    exact h.hne (List.map_eq_nil_iff.mp this)
  · intro x hx
    rcases List.mem_append.mp hx with hx | hx
    · rw [(List.mem_replicate.mp hx).2]
      have h1 := h.r36
      refine ⟨.inl (by omega), ?_⟩
      have e : figC 48 = 0 := rfl
      rw [e]
      omega
    · obtain ⟨f, hm, rfl⟩ := List.mem_map.mp hx
      have h1 := h.hf f hm
      have h2 := hf f hm
      refine ⟨?_, by rw [figC_figD h2.1 h2.2]; exact h1.2⟩
      unfold figD
      split <;> omega
  · rw [val_bod, val_figs hf]
theorem Wrd.okc {c : Int} {r : List Int} (w : Wrd radix figs sl l4 z c r) : ∀ x ∈ c :: r, okc x := fun x hx => by
  rcases w.hok x hx with h | h | h
  · exact .inl h
  · exact .inr (.inl h)
  · exact h.ok
theorem Wrd.c0 {c : Int} {r : List Int} (w : Wrd radix figs sl l4 z c r) : 0 ≤ c := by
  have := w.hc
  unfold isFig at this
  omega
theorem Wrd.word {c : Int} {r pre : List Int} {q : Int} (w : Wrd radix figs sl l4 z c r) (hq : q.toNat = pre.length) (hb : Builtin.Int.intBits (hor radix figs) ≤ 65536) : WordOk (pre ++ (c :: r)) q radix c r := by
  have hd : (pre ++ (c :: r)).drop q.toNat = c :: r := by rw [hq, List.drop_left]
  have hl := w.hl
  have hl2 : (bodyL (c :: r)).length ≤ (c :: r).length := by
    show (if c = 43 ∨ c = 45 then r else c :: r).length ≤ _
    split
    · exact Nat.le_succ _
    · exact Nat.le_refl _
  refine ⟨by rw [hd]; exact w.okc, hd, w.c0, by omega, by omega, by rw [w.hb, w.hlo]; exact w.hne, ?_, by rw [w.hb, w.hlo]; exact w.hdg, by rw [w.hb, w.hlo, w.hv]; exact hb⟩
  rw [w.hb]
  exact fun x hx => (w.hbf x hx).ok
theorem Wrd.big {c : Int} {r pre : List Int} {q : Int} (w : Wrd radix figs sl l4 z c r) (hq : q.toNat = pre.length) (hb : 65536 < Builtin.Int.intBits (hor radix figs)) : WordBig (pre ++ (c :: r)) q radix c r := by
  have hd : (pre ++ (c :: r)).drop q.toNat = c :: r := by rw [hq, List.drop_left]
  have hl := w.hl
  have hl2 : (bodyL (c :: r)).length ≤ (c :: r).length := by
    show (if c = 43 ∨ c = 45 then r else c :: r).length ≤ _
    split
    · exact Nat.le_succ _
    · exact Nat.le_refl _
  refine ⟨by rw [hd]; exact w.okc, hd, w.c0, by omega, by omega, by rw [w.hb, w.hlo]; exact w.hne, ?_, by rw [w.hb, w.hlo]; exact w.hdg, by rw [w.hb, w.hlo, w.hv]; exact hb⟩
  rw [w.hb]
  exact fun x hx => (w.hbf x hx).ok
theorem Wrd.val {c : Int} {r : List Int} (w : Wrd radix figs sl l4 z c r) : valS radix c r = if sl = [45] then 0 - hor radix figs else hor radix figs := by
  unfold valS
  rw [w.hb, w.hlo, w.hv]
  by_cases e : sl = [45]
  · rw [if_pos e, if_pos (w.hm.mpr e)]
  · rw [if_neg e, if_neg (fun q => e (w.hm.mp q))]
theorem Wrd.last {c : Int} {r : List Int} (w : Wrd radix figs sl l4 z c r) : ∃ l' d, c :: r = l' ++ [d] ∧ d ≠ 46 ∧ 0 ≤ d := by
  refine ⟨(c :: r).dropLast, (c :: r).getLast (by simp), (List.dropLast_concat_getLast _).symm, ?_⟩
  have := w.hok _ (List.getLast_mem (by simp : c :: r ≠ []))
  unfold isFig at this
  omega
theorem txt_ne_dot {c : Int} {r : List Int} (h : c ≠ 46) (h0 : 0 ≤ c) : (KStt.txt (c :: r) == Str.ofString ".") = false := by
  rw [s_dot, beq_eq_false_iff_ne]
  intro e
  have h2 := congrArg (fun x : PySem.Str => x.cps.toList) e
  simp only [txt_toList, List.map_cons, List.map_nil] at h2
  have := (List.cons.inj h2).1
  omega
theorem Wrd.dec {c : Int} {r pt : List Int} (w : Wrd 10 figs sl l4 z c r) (hd : ∀ x ∈ bod z l4, isDig x) (hp : pt = [] ∨ pt = [46]) (hb : Builtin.Int.intBits (hor 10 figs) ≤ 65536) : DecOk (c :: r ++ pt) 0 c r (c :: r ++ pt) := by
  have W := w.word (pre := []) (q := 0) rfl hb
  refine ⟨fun x hx => ?_, rfl, ?_, w.c0, W.hfit1, W.hfit2, ?_, ?_, W.hne, W.hok, W.hdg, W.hbits, ?_⟩
  · rcases List.mem_append.mp (show x ∈ c :: r ++ pt from hx) with hx | hx
    · exact w.okc x hx
    · rcases hp with rfl | rfl
      · cases hx
      · rw [List.mem_singleton.mp hx]; exact .inr (.inr (.inl rfl))
  · rcases hp with rfl | rfl
    · exact .inr ⟨List.append_nil _, w.last⟩
    · exact .inl rfl
  · intro e
    exact W.hne (by rw [e]; rfl)
  · rw [w.hb]; exact hd
  · have := w.hc
    unfold isFig at this
    exact txt_ne_dot (by omega) (by omega)
theorem code_at {l : List Int} {i : Nat} {c : Int} (h : l[i]? = some c) : codeAt l (i : Int) = c := by
  have hl : i < l.length := (List.getElem?_eq_some_iff.mp h).1
  rw [codeAt_lt (by omega), Int.toNat_natCast, List.getD_eq_getElem?_getD, h]
  rfl
abbrev Said (val : Int) (v : Value) (nn : Ledger) : Prop := ∃ T t t0 ts k, v = .ref T ∧ nn = [(T, intT val t t0 (.int 0 ts) k)]
theorem heard_law {prog : Program} {w : World} {pt l : List Int} (h : Figs radix figs) (hs : Sgn figs l4) (hsl : sl = [] ∨ sl = [45] ∨ sl = [43]) (hz : z < 3) (hpt : pt = [] ∨ radix = 10 ∧ pt = [46]) (hl : l = headL radix ++ sl ++ List.replicate z 48 ++ l4 ++ pt) (hb : Builtin.Int.intBits (hor radix figs) ≤ 65536) (t : Tok) :
    Spec prog w (hd.heap_39 w.params) 605 6050 373 [.str (KStt.txt l) t] [] (Said (if sl = [45] then 0 - hor radix figs else hor radix figs)) := by
  obtain ⟨c, r, W⟩ := wrd_of h hs hsl hz
  have hl' : l = headL radix ++ (c :: r) ++ pt := by
    rw [hl, ← W.hw]
    simp only [bod, List.append_assoc]
  rw [← W.val]
  have hok := W.okc
  have hlen := W.hl
  have hr := h.hr
  have hw0 : ∀ x ∈ c :: r, 0 ≤ x ∧ x < 128 := ok_ascii hok
  have asc : ∀ x ∈ l, 0 ≤ x ∧ x < 128 := by
    intro x hx
    rw [hl'] at hx
    rcases List.mem_append.mp hx with hx | hx
    · rcases List.mem_append.mp hx with hx | hx
      · rcases hr with rfl | rfl | rfl | rfl | rfl <;> simp [headL] at hx <;> omega
      · exact hw0 x hx
    · rcases hpt with rfl | ⟨_, rfl⟩
      · cases hx
      · rw [List.mem_singleton.mp hx]; omega
  have len : l.length ≤ 100000 := by
    rw [hl', List.length_append, List.length_append]
    have h1 : (headL radix).length ≤ 4 := by rcases hr with rfl | rfl | rfl | rfl | rfl <;> decide
    have h2 : pt.length ≤ 1 := by rcases hpt with rfl | ⟨_, rfl⟩ <;> decide
    omega
  refine heard_spec asc len ?_
  intro x dx Cd vs nC t1 t2 t3 hi n1 n2 n3
  rcases hr with rfl | rfl | rfl | rfl | rfl
  · have hpt : pt = [] := by rcases hpt with q | ⟨q, _⟩; exact q; omega
    subst hpt
    rw [List.append_nil] at hl'
    have e : l = [35, 98] ++ (c :: r) := hl'
    subst e
    exact tokenR_spec hi (by decide) (by simp; omega) len n1 n2 n3 (code_at (i := 0) rfl) (code_at (i := 1) rfl) (.inl ⟨rfl, rfl⟩) (W.word rfl hb)
  · have hpt : pt = [] := by rcases hpt with q | ⟨q, _⟩; exact q; omega
    subst hpt
    rw [List.append_nil] at hl'
    have e : l = [35, 111] ++ (c :: r) := hl'
    subst e
    exact tokenR_spec hi (by decide) (by simp; omega) len n1 n2 n3 (code_at (i := 0) rfl) (code_at (i := 1) rfl) (.inr (.inl ⟨rfl, rfl⟩)) (W.word rfl hb)
  · have hpt : pt = [] := by rcases hpt with q | ⟨q, _⟩; exact q; omega
    subst hpt
    rw [List.append_nil] at hl'
    have e : l = [35, 120] ++ (c :: r) := hl'
    subst e
    exact tokenR_spec hi (by decide) (by simp; omega) len n1 n2 n3 (code_at (i := 0) rfl) (code_at (i := 1) rfl) (.inr (.inr ⟨rfl, rfl⟩)) (W.word rfl hb)
  · have e : l = c :: r ++ pt := hl'
    subst e
    have hp : pt = [] ∨ pt = [46] := hpt.imp id (·.2)
    have hdig : ∀ x ∈ bod z l4, isDig x := by
      intro x hx
      rcases List.mem_append.mp hx with hx | hx
      · rw [(List.mem_replicate.mp hx).2]; exact ⟨by omega, by omega⟩
      · exact hs.dig h.hf x hx
    have hcd : c = 43 ∨ c = 45 ∨ 48 ≤ c ∧ c ≤ 57 := by
      rcases W.hc with q | q | q
      · exact .inl q
      · exact .inr (.inl q)
      · have hb' := W.hb
        have : (if c = 43 ∨ c = 45 then r else c :: r) = bod z l4 := hb'
        unfold isFig at q
        rw [if_neg (by omega)] at this
        exact .inr (.inr (hdig c (by rw [← this]; exact .head _)))
    have hc0 : codeAt (c :: r ++ pt) 0 = c := code_at (i := 0) rfl
    exact tokenW_spec hi (by decide) (by simp; omega) len n1 n2 n3 (by rw [hc0]; omega) (by rw [hc0]; exact hcd) (W.dec hdig hp hb)
  · have hpt : pt = [] := by rcases hpt with q | ⟨q, _⟩; exact q; omega
    subst hpt
    rw [List.append_nil] at hl'
    have e : l = [35, 51, 54, 114] ++ (c :: r) := hl'
    subst e
    exact tokenN_spec hi (by decide) (by simp; omega) len n1 n2 n3 (code_at (i := 0) rfl) (code_at (i := 1) rfl) (code_at (i := 2) rfl) (code_at (i := 3) rfl) (W.word rfl hb)
theorem hor_small (h0 : 2 ≤ radix) (h1 : radix ≤ 36) : ∀ l : List Int, (∀ f ∈ l, 0 ≤ f ∧ f < radix) → 0 ≤ hor radix l ∧ hor radix l < radix ^ l.length
  | [], _ => by simp [hor]
  | f :: l, h => by
    have ih := hor_small h0 h1 l fun x hx => h x (.tail _ hx)
    have hf := h f (.head _)
    have hp := (pow_le36 h0 h1 l.length).1
    rw [hor_cons, List.length_cons, Int.pow_succ]
    have h2 : 0 ≤ f * radix ^ l.length := Int.mul_nonneg hf.1 hp
    have h3 : (f + 1) * radix ^ l.length ≤ radix * radix ^ l.length := Int.mul_le_mul_of_nonneg_right (by omega) hp
    rw [Int.add_mul, Int.one_mul, Int.mul_comm radix] at h3
    omega
theorem bits_fig (h : Figs radix figs) (hl : figs.length ≤ 9) : Builtin.Int.intBits (hor radix figs) ≤ 65536 := by
  have h1 := hor_small h.r36.1 h.r36.2 figs h.hf
  have h2 := pow_le36 h.r36.1 h.r36.2 figs.length
  have h3 := pow36_mono hl
  exact Nat.le_trans (bits_15 h1.1 (by omega)) (by decide)
theorem big_law {prog : Program} {w : World} {pt l : List Int} (h : FigOk radix figs) (hs : Sgn figs l4) (hsl : sl = [] ∨ sl = [45] ∨ sl = [43]) (hz : z < 3) (hpt : pt = [] ∨ radix = 10 ∧ pt = [46]) (hl : l = headL radix ++ sl ++ List.replicate z 48 ++ l4 ++ pt) (hb : 65536 < Builtin.Int.intBits (hor radix figs)) (t : Tok) :
    SpecX prog w (hd.heap_39 w.params) 605 6050 373 [.str (KStt.txt l) t] (fun v => ∃ t, v = .str (Str.ofString "overflow-error") t) := by
  have hF := figs_of h
  have hr : radix = 16 := by
    rcases h with ⟨q, _⟩ | ⟨_, _, q, _⟩
    · exact q
    · have := bits_fig hF q
      omega
  subst hr
  obtain ⟨c, r, W⟩ := wrd_of hF hs hsl hz
  have hpt : pt = [] := by rcases hpt with q | ⟨q, _⟩; exact q; omega
  subst hpt
  have e : l = [35, 120] ++ (c :: r) := by
    rw [hl, ← W.hw, List.append_nil]
    simp only [bod, List.append_assoc]
    rfl
  have hw0 : ∀ x ∈ c :: r, 0 ≤ x ∧ x < 128 := ok_ascii W.okc
  have hlen := W.hl
  subst e
  refine heardX_spec (fun x hx => ?_) (by simp; simp at hlen; omega) ?_
  · rcases List.mem_append.mp hx with hx | hx
    · simp at hx; omega
    · exact hw0 x hx
  · intro x dx Cd vs nC t1 t2 t3 hi n1 n2 n3
    exact tokenX_spec hi (by decide) (by simp; omega) (by simp; simp at hlen; omega) n1 n2 n3 (code_at (i := 0) rfl) (code_at (i := 1) rfl) (W.big rfl hb)
end
end PartPB
section PartPC
section
variable {M : Model} {A : Around} {env : Env} {Q : Flow → Shared → Prop} {E : Value → Shared → Prop} {r : List Stmt}
theorem wp_execs_app : ∀ (l : List Stmt) (Γ : Ctx) (p : Pos) (s : Shared), Γ.In A → Sem.wp M Γ (execs l env) (fun f _ s' => match f with | .next => wpAny M A (execs r env) Q E s' | f => Q f s') (fun e _ s' => E e s') p s → Sem.wp M Γ (execs (l ++ r) env) (fun f _ s' => Q f s') (fun e _ s' => E e s') p s
  | [], Γ, p, s, hΓ, h => h Γ p hΓ
  | st :: l, Γ, p, s, hΓ, h => by
    rw [List.cons_append]
    rw [execs_cons, Sem.wp_bind'] at h ⊢
    refine Sem.wp_mono M Γ _ (fun f p' s' h' => ?_) (fun _ _ _ h' => h') _ _ h
    cases f with
    | next => exact wp_execs_app l Γ p' s' hΓ h'
    | ret v => exact h'
    | brk => exact h'
    | cont => exact h'
theorem wpAny_execs_app {l : List Stmt} {s : Shared} (h : wpAny M A (execs l env) (fun f s' => match f with | .next => wpAny M A (execs r env) Q E s' | f => Q f s') E s) : wpAny M A (execs (l ++ r) env) Q E s :=
  fun Γ p hΓ => wp_execs_app l Γ p s hΓ (h Γ p hΓ)
end
theorem word_61 : True := by
  k_with_none
  (k_with "my kp" => (first | exact Kn.refl _ _ | (refine' Kn.at (by assumption) ?kk; (case kk => k_extra "my kp")) | (refine' Kn.set (by decide +kernel) ?kk; (case kk => k_extra "my kp")) | (refine' Kn.setf (by decide +kernel) ?kk; (case kk => k_extra "my kp")) | (refine' Kn.cont (by decide +kernel) ?kk; (case kk => k_extra "my kp"))))
  (k_with "my sub" => (first | (refine' List.forall_mem_cons.mpr ⟨?ma, ?mb⟩; (case ma => k_mem); (case mb => k_extra "my sub")) | exact List.forall_mem_nil _ | (intro q hq; repeat (first | exact hq | refine List.Mem.tail _ ?_))))
  (k_with "my laws" => (show wpAny _ _ (execs _ (envOf _ ⟨_, _, _, _, _⟩ _ _ _)) _ _ _))
  (k_with "my law" => (show wpAny _ _ (exec _ (envOf _ ⟨_, _, _, _, _⟩ _ _ _)) _ _ _))
  trivial
section
variable {prog : Program} {w : World} {p : Program} {loose : List Str} {mean : ExcName → Option Value} {mg mb : Str → Option Value} {A₀ : Around} {h₀ : Heap} {L fa C D G : Addr} {cd : Value} {m : Str → Option Value} {s : Shared} {Q : Flow → Shared → Prop} {E : Value → Shared → Prop} {own : Ledger} {vs : List Value} {cs : List Int} {nC : Nat} {mm : Int} {t : Tok} {nD : Nat}
theorem dk0 : lawVars.contains (Str.ofString "_law_deck_here") = false := by decide +kernel
set_option maxRecDepth 100000 in
set_option maxHeartbeats 1500000 in
theorem rest_spec {radix worth : Int} {tr tw : Tok} {figs : List Int} {fs : List Value} {nG : Nat} (B : Below A₀ h₀ [] h₀) (X : (hd.heap_39 w.params).In h₀) (T : Top p loose mean mg mb h₀) (F2 : Fr h₀ L s.heap m) (N2 : News h₀ L s.heap ((G, listOf fs.toArray nG) :: (C, listOf vs.toArray nC) :: (D, listOf #[.ref C, .int mm t] nD) :: own)) (hown9 : ∀ p ∈ own, p.1 ∉ [C, D]) (hne : @Ne Nat C D) (g1 : @Ne Nat G C) (g2 : @Ne Nat G D) (hfs : IntsAre fs figs) (hfig : FigOk radix figs) (hi : IntsAre vs cs) (hok : DeckOk cs mm)
    (a0 : m (Str.ofString "_law_deck_here") = some (.ref D)) (a1 : m (Str.ofString "_law_radix") = some (.int radix tr)) (a2 : m (Str.ofString "_law_figures_here") = some (.ref G)) (a3 : m (Str.ofString "_law_worth") = some (.int worth tw)) (hw : worth = hor radix figs)
    (ret : ∀ h' tk' m' vs' cs' nC' mm' t' nD', Kp m m' → Fr h₀ L h' m' → News h₀ L h' ((C, listOf vs'.toArray nC') :: (D, listOf #[.ref C, .int mm' t'] nD') :: own) → IntsAre vs' cs' → DeckOk cs' mm' → Q .next { s with heap := h', toks := tk' }) :
    wpAny (model prog w) (lawA L fa cd) (execs [stm 3, stm 4, stm 5, stm 6, stm 7, stm 8, stm 9] (lawEnv L fa cd)) Q (fun _ _ => False) s := by
  have hF := figs_of hfig
  refine wpAny_execs_cons ?_
  with_reducible refine stm3_spec (figs := figs) B X T F2 N2 hown9 hne g1 g2 hi hok a0 a1 a2 a3 ?_
  intro h3 tk3 m3 sg sl ts great vs3 cs3 nC3 mm3 t3 nD3 k3 b1 b2 b3 b4 b5 hsg hsl F3 N3 hi3 hok3
  show wpAny (model prog w) (lawA L fa cd) (execs _ _) Q _ { s with heap := h3, toks := tk3 }
  subst hsg
  have b0 : m3 (Str.ofString "_law_deck_here") = some (.ref D) := k3.has a0 dk0
  have f36 := hF.f36
  have l50 : figs.length ≤ 50000 := by have := hF.hl; omega
  refine wpAny_execs_cons ?_
  with_reducible refine stm4_spec B X T F3 N3 hfs f36 l50 b2 ?_
  intro h4 tk4 m4 x4 ts4 k4 c1 c2 F4 N4
  show wpAny (model prog w) (lawA L fa cd) (execs _ _) Q _ { s with heap := h4, toks := tk4 }
  subst c2
  have f1 : m4 (Str.ofString "_law_radix") = some (.int radix tr) := k4.has b1 (by decide +kernel)
  have r5 := hF.hr
  refine wpAny_execs_cons ?_
  with_reducible refine stm5_spec B X T F4 N4 r5 f1 ?_
  intro h5 tk5 m5 x5 ts5 k5 c3 c4 F5 N5
  show wpAny (model prog w) (lawA L fa cd) (execs _ _) Q _ { s with heap := h5, toks := tk5 }
  subst c4
  have f0 : m5 (Str.ofString "_law_deck_here") = some (.ref D) := k5.has (k4.has b0 (by decide +kernel)) (by decide +kernel)
  have f3 : m5 (Str.ofString "_law_sign") = some (.str (KStt.txt sl) ts) := k5.has (k4.has b4 (by decide +kernel)) (by decide +kernel)
  have f4 : m5 (Str.ofString "_law_signs") = some (.str (KStt.txt (figs.map figD)) ts4) := k5.has c1 (by decide +kernel)
  have f5 : m5 (Str.ofString "_law_is_great") = some (.bool great) := k5.has (k4.has b5 (by decide +kernel)) (by decide +kernel)
  have q1 : (headL radix).length ≤ 4 := by rcases r5 with rfl | rfl | rfl | rfl | rfl <;> decide
  have q2 : sl.length ≤ 1 := by rcases hsl with rfl | rfl | rfl <;> decide
  have q3 : (figs.map figD).length ≤ 50000 := by rw [List.length_map]; exact l50
  have q4 : ∀ x ∈ figs.map figD, 0 ≤ x ∧ x < 128 := by
    intro x hx
    obtain ⟨f, hf, rfl⟩ := List.mem_map.mp hx
    have := f36 f hf
    unfold figD
    split <;> omega
  have q1' : (headL radix).length ≤ 10 := by omega
  have q2' : sl.length ≤ 10 := by omega
  refine wpAny_execs_cons ?_
  with_reducible refine stm6_spec B X T F5 N5 hown9 hne g1 g2 hi3 hok3 q1' q2' q3 q4 f0 c3 f3 f4 f5 ?_
  intro h6 tk6 m6 z l4 tx6 vs6 cs6 nC6 mm6 t6 nD6 k6 hs hz0 hz1 c5 F6 N6 hi6 hok6
  show wpAny (model prog w) (lawA L fa cd) (execs _ _) Q _ { s with heap := h6, toks := tk6 }
  have k36 : Kn [Str.ofString "_law_signs", Str.ofString "_law_head", Str.ofString "_law_text"] m3 m6 := ((k4.up (by decide +kernel)).trans (k5.up (by decide +kernel))).trans (k6.up (by decide +kernel))
  have j0 : m6 (Str.ofString "_law_deck_here") = some (.ref D) := k36.has b0 (by decide +kernel)
  have j1 : m6 (Str.ofString "_law_radix") = some (.int radix tr) := k36.has b1 (by decide +kernel)
  have q6 : (headL radix ++ sl ++ List.replicate z.toNat 48 ++ l4).length ≤ 60000 := by
    have e1 : l4.length = figs.length := Sgn.len hs
    have := hF.hl
    simp only [List.length_append, List.length_replicate]
    omega
  refine wpAny_execs_cons ?_
  with_reducible refine stm7_spec B X T F6 N6 hown9 hne g1 g2 hi6 hok6 q6 j0 j1 c5 ?_
  intro h7 tk7 m7 pt tx7 vs7 cs7 nC7 mm7 t7 nD7 k7 hpt c6 F7 N7 hi7 hok7
  show wpAny (model prog w) (lawA L fa cd) (execs _ _) Q _ { s with heap := h7, toks := tk7 }
  have k37 : Kn [Str.ofString "_law_signs", Str.ofString "_law_head", Str.ofString "_law_text"] m3 m7 := k36.trans (k7.up (by decide +kernel))
  have kall : Kp m m7 := k3.trans (k37.up (by decide +kernel))
  have y1 : m7 (Str.ofString "_law_worth") = some (.int worth tw) := k37.has b3 (by decide +kernel)
  have y2 : m7 (Str.ofString "_law_sign") = some (.str (KStt.txt sl) ts) := k37.has b4 (by decide +kernel)
  have hz : z.toNat < 3 := by omega
  subst hw
  by_cases hbits : Builtin.Int.intBits (hor radix figs) ≤ 65536
  · refine wpAny_execs_cons ?_
    with_reducible refine stm8_ok B X T F7 N7 hbits hsl y1 y2 ?_
    intro h8 tk8 m8 V v1 v2 v3 k k8 c7 F8 N8
    show wpAny (model prog w) (lawA L fa cd) (execs _ _) Q _ { s with heap := h8, toks := tk8 }
    have y3 : m8 (Str.ofString "_law_text") = some (.str (KStt.txt (headL radix ++ sl ++ List.replicate z.toNat 48 ++ l4 ++ pt)) tx7) := k8.has c6 (by decide +kernel)
    have S := fun t => heard_law (prog := prog) (w := w) hF hs hsl hz hpt rfl hbits t
    refine wpAny_execs_cons ?_
    with_reducible refine stm9_ok B X T F8 N8 S y3 c7 ?_
    intro h9 tk9 F9 N9
    have kk : Kp m m8 := kall.trans (k8.up (by decide +kernel))
    exact wpAny_execs_nil (ret _ _ _ _ _ _ _ _ _ kk F9 (cb_drop N9 fun q hq => .tail _ hq) hi7 hok7)
  · have hbig : 65536 < Builtin.Int.intBits (hor radix figs) := by omega
    refine wpAny_execs_cons ?_
    with_reducible refine stm8_big B X T F7 N7 hbig y1 ?_
    intro h8 tk8 m8 ts8 k8 c7 F8 N8
    show wpAny (model prog w) (lawA L fa cd) (execs _ _) Q _ { s with heap := h8, toks := tk8 }
    have y3 : m8 (Str.ofString "_law_text") = some (.str (KStt.txt (headL radix ++ sl ++ List.replicate z.toNat 48 ++ l4 ++ pt)) tx7) := k8.has c6 (by decide +kernel)
    have S := fun t => big_law (prog := prog) (w := w) hfig hs hsl hz hpt rfl hbig t
    refine wpAny_execs_cons ?_
    with_reducible refine stm9_big B X T F8 N8 S y3 c7 ?_
    intro h9 tk9 F9 N9
    have kk : Kp m m8 := kall.trans (k8.up (by decide +kernel))
    exact wpAny_execs_nil (ret _ _ _ _ _ _ _ _ _ kk F9 (cb_drop N9 fun q hq => .tail _ hq) hi7 hok7)
set_option maxRecDepth 100000 in
set_option maxHeartbeats 1500000 in
theorem turn_spec (B : Below A₀ h₀ [] h₀) (X : (hd.heap_39 w.params).In h₀) (T : Top p loose mean mg mb h₀) (F : Fr h₀ L s.heap m) (N : News h₀ L s.heap ((C, listOf vs.toArray nC) :: (D, listOf #[.ref C, .int mm t] nD) :: own)) (hown9 : ∀ p ∈ own, p.1 ∉ [C, D]) (hne : @Ne Nat C D) (hi : IntsAre vs cs) (hok : DeckOk cs mm)
    (hm : m (Str.ofString "_law_deck_here") = some (.ref D))
    (ret : ∀ h' tk' m' vs' cs' nC' mm' t' nD', Kp m m' → Fr h₀ L h' m' → News h₀ L h' ((C, listOf vs'.toArray nC') :: (D, listOf #[.ref C, .int mm' t'] nD') :: own) → IntsAre vs' cs' → DeckOk cs' mm' → Q .next { s with heap := h', toks := tk' }) :
    wpAny (model prog w) (lawA L fa cd) (execs turnBody (lawEnv L fa cd)) Q (fun _ _ => False) s := by
  rw [turn_eq]
  refine wpAny_execs_cons ?_
  with_reducible refine stm0_spec B X T F N hown9 hne hi hok hm ?_
  intro h1 tk1 m1 G radix tr figs fs nG vs1 cs1 nC1 mm1 t1 nD1 k1 e1 e2 F1 N1 g1 g2 hfs hfig hi1 hok1
  show wpAny (model prog w) (lawA L fa cd) (execs _ _) Q _ { s with heap := h1, toks := tk1 }
  clear F N hi hok
  have hF := figs_of hfig
  have d1 : m1 (Str.ofString "_law_deck_here") = some (.ref D) := k1.has hm dk0
  have step : ∀ h2 tk2 m2 worth tw, Kp m1 m2 → m2 (Str.ofString "_law_radix") = some (.int radix tr) → m2 (Str.ofString "_law_figures_here") = some (.ref G) → m2 (Str.ofString "_law_worth") = some (.int worth tw) → worth = hor radix figs → Fr h₀ L h2 m2 → News h₀ L h2 ((G, listOf fs.toArray nG) :: (C, listOf vs1.toArray nC1) :: (D, listOf #[.ref C, .int mm1 t1] nD1) :: own) →
      wpAny (model prog w) (lawA L fa cd) (execs [stm 3, stm 4, stm 5, stm 6, stm 7, stm 8, stm 9] (lawEnv L fa cd)) Q (fun _ _ => False) { s with heap := h2, toks := tk2 } := by
    intro h2 tk2 m2 worth tw k2 a1 a2 a3 hw F2 N2
    exact rest_spec B X T F2 N2 hown9 hne g1 g2 hfs hfig hi1 hok1 (k2.has d1 dk0) a1 a2 a3 hw fun h' tk' m' vs' cs' nC' mm' t' nD' k F' N' => ret h' tk' m' vs' cs' nC' mm' t' nD' ((k1.trans k2).trans k) F' N'
  refine wpAny_execs_app (l := [stm 1, stm 2]) ?_
  rcases hfig with ⟨rfl, x, d, hx, hd, rfl⟩ | ⟨hr, hl0, hl, hff⟩
  · with_reducible refine stmW_spec B X T F1 N1 hfs hx hd e1 e2 ?_
    intro h2 tk2 m2 worth tw k2 a1 a2 a3 hw F2 N2
    exact step h2 tk2 m2 worth tw k2 a1 a2 a3 (by rw [hw, hor_wide]) F2 N2
  · have q := hF.r36
    with_reducible refine stmS_spec B X T F1 N1 hown9 hne g1 g2 hfs hl q.1 q.2 e1 e2 ?_
    intro h2 tk2 m2 worth tw k2 a1 a2 a3 hw F2 N2
    exact step h2 tk2 m2 worth tw k2 a1 a2 a3 (by rw [hw, lo_hor]) F2 N2
end
end PartPC
section PartPD
theorem deck_use {prog : Program} {w : World} {K : Frag} {D U : Nat} {f : Addr} {args : List Value} {Pg : Heap → Prop} {Post : Value → Ledger → Prop} {p : Program} {loose : List Str} {mean : ExcName → Option Value} {mg mb : Str → Option Value} {env : Env} {outer : List Env} {A₀ A : Around} {base h₀ : Heap} {L : Addr} {m : Str → Option Value} {s : Shared} {Q E : Value → Shared → Prop}
    (S : SpecB prog w K D U f args Pg [] Post) (hh : A.handled = none) (hA : A.frames = some (env :: outer)) (hg : A.guards = some []) (hd : A.depth ≤ D) (hu : A.units ≤ U) (hf : env.frame = some L) (hke : env.scope.kind = .function)
    (B : Below A₀ base outer h₀) (F : Fr h₀ L s.heap m) (X : K.In h₀) (HP : Pg h₀) (T : Top p loose mean mg mb h₀)
    (ret : ∀ v nn' h' tk', Post v nn' → Fr h₀ L h' m → News h₀ L h' nn' → Q v { s with heap := h', toks := tk' }) :
    wpAny (model prog w) A (call (.ref f) args) Q E s :=
  S p loose mean mg mb env outer A₀ A base h₀ L m s Q E hh hA hg hd hu hf hke B F X HP News.nil T fun v nn' h' tk' hp F' N' _ _ => ret v nn' h' tk' hp F' N'
structure DK where
  vs : List Value
  cs : List Int
  n : Nat
  mm : Int
  t : Tok
  nD : Nat
abbrev dkL (C D : Addr) (k : DK) : Ledger := [(C, listOf k.vs.toArray k.n), (D, listOf #[.ref C, .int k.mm k.t] k.nD)]
theorem own_off {own : Ledger} {C D : Addr} {nC nD : Obj} (h : OwnOff own ([(C, nC), (D, nD)].map (·.1))) : ∀ p ∈ own, p.1 ∉ [C, D] := fun p hp hm => by
  rcases List.mem_cons.mp hm with e | hm
  · exact h p hp C (.head _) e
  · exact h p hp D (.tail _ (.head _)) (List.mem_singleton.mp hm)
abbrev turnX : Str := Str.ofString "_law_turn"
theorem deck_ne : Str.ofString "_law_deck_here" ≠ turnX := by decide +kernel
section
variable {prog : Program} {w : World} {A A₀ : Around} {E : Value → Shared → Prop} {s : Shared} {h₀ : Heap} {Q : Flow → Shared → Prop} {p : Program} {loose : List Str} {mean : ExcName → Option Value} {mg mb : Str → Option Value} {L fa : Addr} {cd : Value}
set_option maxHeartbeats 1000000 in
theorem law_loop {r : Addr} {a₀ b₀ : Int} {t₀ u₀ v₀ : Tok} {m₀ : Str → Option Value} {C D : Addr} {news : Ledger} {vs : List Value} {cs : List Int} {nC : Nat} {mm : Int} {t : Tok} {nD : Nat}
    (hh : A.handled = none) (hA : A.frames = some [lawEnv L fa cd]) (hg : A.guards = some []) (hdp : A.depth ≤ 580) (hu : A.units ≤ 5800)
    (B : Below A₀ h₀ [] h₀) (X : (hd.heap_39 w.params).In h₀) (T : Top p loose mean mg mb h₀)
    (hr : IsRange s.heap r a₀ b₀ 1 t₀ u₀ v₀) (hsmall : Builtin.Range.small a₀ b₀ 1 = true) (F : Fr h₀ (lawEnv L fa cd).locals s.heap m₀) (N : News h₀ (lawEnv L fa cd).locals s.heap news)
    (hn : ∀ q ∈ dkL C D ⟨vs, cs, nC, mm, t, nD⟩, q ∈ news) (hne : @Ne Nat C D) (hi : IntsAre vs cs) (hok : DeckOk cs mm) (hm : m₀ (Str.ofString "_law_deck_here") = some (.ref D))
    (done : ∀ (m' : Str → Option Value) nx h tk, Fr h₀ (lawEnv L fa cd).locals h m' → News h₀ (lawEnv L fa cd).locals h nx → Q .next { s with heap := h, toks := tk }) :
    wpAny (model prog w) A (pyIter (.ref r)) (fun it s₂ => LoopAtV prog w A h₀ (lawEnv L fa cd) turnX turnBody Q E it s₂) E s := by
  refine kst_range (dkL C D) (fun _ => []) (fun k => IntsAre k.vs k.cs ∧ DeckOk k.cs k.mm) lawVars (fun _ _ => True) ⟨vs, cs, nC, mm, t, nD⟩ hh hr hsmall (rangeSize_nat _ _) F (fun q hq => N q (hn q hq)) ⟨hi, hok⟩ (fun _ h => nomatch h) True.intro ?_
    (fun c u h tk _ _ F N => done _ _ h tk F N)
  intro c pre k t u h tk own _ _ off hf _ F1 N1
  have W := turn_spec (prog := prog) (fa := fa) (cd := cd) (s := { s with heap := h, toks := tk }) (own := own)
    (Q := InvPostN h₀ (lawEnv L fa cd).locals (KstS (dkL C D) (fun _ => []) (fun k => IntsAre k.vs k.cs ∧ DeckOk k.cs k.mm) turnX lawVars m₀ (fun _ _ => True) (pre ++ [k])) own ((dkL C D ⟨vs, cs, nC, mm, t, nD⟩).map (·.1)) { s with heap := h, toks := tk } Q)
    B X T F1 N1 (own_off off) hne hf.1 hf.2 ?hm ?ret
  case hm =>
    show (if Str.ofString "_law_deck_here" = turnX then some (Value.int k t) else if lawVars.contains (Str.ofString "_law_deck_here") = true then u (Str.ofString "_law_deck_here") else m₀ (Str.ofString "_law_deck_here")) = _
    rw [if_neg deck_ne, dk0, if_neg (by decide)]
    exact hm
  case ret =>
    intro h' tk' m' vs' cs' nC' mm' t' nD' kp F' N' hi' hok'
    refine kst_end ⟨vs', cs', nC', mm', t', nD'⟩ F' N' ?_ ?_ rfl ⟨hi', hok'⟩ (fun _ h => nomatch h) ?_ True.intro
    · exact List.forall_mem_cons.mpr ⟨.head _, List.forall_mem_cons.mpr ⟨.tail _ (.head _), List.forall_mem_nil _⟩⟩
    · exact fun q hq => .tail _ (.tail _ hq)
    · intro z hz _ hc
      rw [kp z hc]
      show (if z = turnX then some (Value.int k t) else if lawVars.contains z = true then u z else m₀ z) = _
      rw [if_neg hz, hc, if_neg (by decide)]
  exact wpAny_mono (wpAny_up W hh hA hg hdp hu) (fun _ _ q => q) fun _ _ q => q.elim
end
theorem word_62 : True := by
  k_with_none
  (k_with "my kp" => (first | exact Kn.refl _ _ | (refine' Kn.at (by assumption) ?kk; (case kk => k_extra "my kp")) | (refine' Kn.set (by decide +kernel) ?kk; (case kk => k_extra "my kp")) | (refine' Kn.setf (by decide +kernel) ?kk; (case kk => k_extra "my kp")) | (refine' Kn.cont (by decide +kernel) ?kk; (case kk => k_extra "my kp"))))
  (k_with "my sub" => (first | (refine' List.forall_mem_cons.mpr ⟨?ma, ?mb⟩; (case ma => k_mem); (case mb => k_extra "my sub")) | exact List.forall_mem_nil _ | (intro q hq; repeat (first | exact hq | refine List.Mem.tail _ ?_))))
  (k_with "my laws" => (show wpAny _ _ (execs _ (envOf _ ⟨_, _, _, _, _⟩ _ _ _)) _ _ _))
  (k_with "my law" => (show wpAny _ _ (exec _ (envOf _ ⟨_, _, _, _, _⟩ _ _ _)) _ _ _))
  trivial
section
variable {prog : Program} {w : World} {p : Program} {loose : List Str} {mean : ExcName → Option Value} {mg mb : Str → Option Value} {A₀ : Around} {h₀ : Heap} {L fa C D G : Addr} {cd : Value} {m : Str → Option Value} {s : Shared} {Q : Flow → Shared → Prop} {E : Value → Shared → Prop} {own : Ledger} {vs : List Value} {cs : List Int} {nC : Nat} {mm : Int} {t : Tok} {nD : Nat}
theorem word_63 : True := by
  (k_with "my e0" => (((case ho | hcd => k_is); (case hr => decide); (case hb => first | exact fun s X => BindsTo.of_eq rfl | exact fun s X => binds_K X rfl (by k_is) rfl rfl rfl); (case hl => exact locs rfl); (case c1 | c2 | c3 => exact rfl); (case c4 => decide))))
  (k_with "my enter" => ((k_dflt (refine' spec_of ?ho ?hcd ?hr ?hb ?hl ?c1 ?c2 ?c3 ?c4 ?_; k_extra "my e0"))))
  (k_with "my enterR" => ((k_dflt (refine' specR_of ?ho ?hcd ?hr ?hb ?hl ?c1 ?c2 ?c3 ?c4 ?_; k_extra "my e0"))))
  (k_with "my rst" => (first | exact Rst.nil | exact Rst.all (fun _ _ => List.not_mem_nil) | exact Rst.all hown9 | (refine' Rst.drop ?ra ?rb; (case ra => k_extra "my in"); (case rb => k_extra "my rst")) | (refine' Rst.keep ?ra ?rb; (case ra => k_extra "my notin"); (case rb => k_extra "my rst"))))
  (k_with "my c1" => (((case a1 | a2 | a3 => exact rfl); (case a4 | a5 => exact Nat.le_of_ble_eq_true rfl))))
  (k_with "my c2" => (((case a7 => first | exact rfl | assumption); (case B | F | X | N | T => k_asm))))
  (k_with "my c4" => ((k_extra "my c1"; (case a6 => exact rfl); k_extra "my c2")))
  (k_with "my c3" => (((case hn => k_extra "my mem"); (case has => exact rfl); (case hr => k_extra "my rst"))))
  (k_with "eval Constant int" => ((refine wpAny_Constant_int ?_; (try dsimp only))))
  (k_with "evalPairs" => ((first | (refine pairTrees_cons_walk ?_; (try dsimp only)) | (refine pairTrees_nil_walk ?_; (try dsimp only)))))
  (k_with "my mem" => (first | exact List.forall_mem_nil _ | (refine' List.forall_mem_cons.mpr ⟨?ma, ?mb⟩; (case ma => k_mem); (case mb => k_extra "my mem"))))
  (k_with "my notin" => (first | exact List.not_mem_nil | (refine' notin_cons ?na ?nb; (case na => ((try dsimp only); first | k_extra "my ne" | omega)); (case nb => k_extra "my notin"))))
  (k_with "my in" => (first | exact List.Mem.head _ | (refine' List.Mem.tail _ ?_; k_extra "my in")))
  (k_with "my post" => (((try k_sweep); (try dsimp only); (try k_fold))))
  (k_with "my pre" => ((first | omega | (simp only [bne_iff_ne, ne_eq, beq_iff_eq, decide_eq_true_eq, Bool.not_eq_true'] ; omega))))
  (k_with "ite" => (first | (k_openite; goal_has Mine.codeAt; first | (refine ite_pos (by k_extra "my pre") ?_; walk_say "MINE") | (refine ite_neg (by k_extra "my pre") ?_; walk_say "MINE")) | (k_closed; first | (refine ite_pos (by decide) ?_; walk_say "MINEC") | (refine ite_neg (by decide) ?_; walk_say "MINEC"))))
  (k_with "WhlIf" => ((goal_has Mine.codeAt; first | (refine WhlIf.yes (by (simp only [bne_iff_ne, ne_eq, beq_iff_eq, decide_eq_true_eq, Bool.not_eq_true', Bool.and_eq_true] ; omega)) ?_; walk_say "MINE") | (refine WhlIf.no (by (simp only [bne_eq_false_iff_eq, beq_eq_false_iff_ne, ne_eq, decide_eq_false_iff_not, Bool.and_eq_false_iff] ; omega)) ?_; walk_say "MINE"))))
  (k_with "call ref" => ((k_here; first | ((with_reducible show wpAny _ _ (call (Value.ref 356) _) _ _ _); k_dflt ((show wpAny _ _ (call (Value.ref 356) [Value.ref _, Value.int _ _]) _ _ _); refine' spec_use' (draw_spec (C := C) (D := D) ?p0 ?hi ?hok ?h1 ?h2) ?a1 ?a2 ?a3 ?a4 ?a5 ?a6 ?a7 ?B ?F ?X ?N ?T ?hn ?has ?hr ?_; k_extra "my c4"; (case p0 => assumption); k_extra "my c3"; (case hi | hok => assumption); (case h1 | h2 => omega); k_whole; intro v9 nn9 h9 tk9 hP9 F9 N9 fr9; (obtain ⟨x9, tx9, vs9, cs9, nC9, mm9, tt9, nD9, rfl, rfl, hx0, hx1, hi9, hok9⟩ := hP9); (simp only [List.cons_append, List.nil_append] at N9); k_extra "my post")))))
  trivial
def lst (i : Nat) : Stmt := lawBody.getD i (.Pass ⟨0, 0, 0, 0⟩)
theorem law_eq : lawBody = [lst 0, lst 1, lst 2] := rfl
theorem word_64 : True := by
  (k_with "call ref" => ((k_here; (with_reducible show wpAny _ _ (call (Value.ref 349) _) _ _ _); k_dflt ((show wpAny _ _ (call (Value.ref 349) [Value.ref _]) _ _ _); refine' deck_use (deck_spec ?hi ?hl) ?a1 ?a2 ?a3 ?a4 ?a5 ?a6 ?a7 ?B ?F ?X ?HP ?T ?_; (case a1 => exact rfl); (case a2 => exact rfl); (case a3 => exact rfl); (case a4 => exact Nat.le_of_ble_eq_true rfl); (case a5 => exact Nat.le_of_ble_eq_true rfl); (case a6 => exact rfl); (case a7 => first | exact rfl | assumption); (case B => k_asm); (case F => k_asm); (case X => k_asm); (case HP => (show Heap.IsList _ _ _; assumption)); (case T => k_asm); (case hi => assumption); (case hl => omega); k_whole; intro v9 nn9 h9 tk9 hP9 F9 N9; obtain ⟨C, D, vs0, cs0, nC0, mm0, tt0, nD0, rfl, rfl, hne, hi0, hok0⟩ := hP9; (try k_sweep); (try dsimp only); (try k_fold)))))
  trivial
set_option maxRecDepth 100000 in
set_option maxHeartbeats 1500000 in
theorem lst0_spec {S : Addr} {ws : List Value} {ns : List Int} (B : Below A₀ h₀ [] h₀) (X : (hd.heap_39 w.params).In h₀) (T : Top p loose mean mg mb h₀) (F : Fr h₀ L s.heap m) (N : News h₀ L s.heap []) (HL : h₀.IsList S ws.toArray) (hi : IntsAre ws ns) (hl : ns.length ≤ 63) (hm : m (Str.ofString "script") = some (.ref S))
    (ret : ∀ h' tk' m' C D vs cs nC mm t nD, m' (Str.ofString "_law_deck_here") = some (.ref D) → Fr h₀ L h' m' → News h₀ L h' [(C, listOf vs.toArray nC), (D, listOf #[.ref C, .int mm t] nD)] → @Ne Nat C D → IntsAre vs cs → DeckOk cs mm → Q .next { s with heap := h', toks := tk' }) :
    wpAny (model prog w) (lawA L fa cd) (exec (lst 0) (lawEnv L fa cd)) Q (fun _ _ => False) s := by
  show wpAny _ _ (exec (.Assign _ _ _) _) _ _ _
  k_extra "my law"
  rw [m_at hm] at F
  k_steps
  refine' ret _ _ _ _ _ _ _ _ _ _ _ ?z1 ?zF ?zN hne hi0 hok0
  (case zF => assumption)
  (case zN => assumption)
  (case z1 => exact rfl)
theorem word_65 : True := by
  (k_with "exec For" => ((k_here; (rename Fr _ _ _ _ => lF'); (with_unfolding_all refine' For_invVF lF' ?k1 ?k2 ?_; (case k1 => exact rfl); (case k2 => exact rfl); k_whole))))
  (k_with "my loop" => (( refine' law_loop (C := C) (D := D) rfl rfl rfl (Nat.le_refl _) (Nat.le_refl _) B X T ?zr ?zs ?zF ?zN ?zn hne ?zi ?zo ?zm ?zdo; (case zr => assumption); (case zs => first | decide | exact small_one (by kcf_bnd) (by kcf_bnd) (by kcf_bnd) (by kcf_bnd)); (case zF => assumption); (case zN => assumption); (case zn => k_extra "my mem"); (case zi => assumption); (case zo => assumption); (case zm => exact rfl); (case zdo => (intro m1 nx1 h1 tk1 F1 N1; exact ret _ _ _ _ F1 N1)))))
  trivial
set_option maxRecDepth 100000 in
set_option maxHeartbeats 1500000 in
theorem lst1_spec (B : Below A₀ h₀ [] h₀) (X : (hd.heap_39 w.params).In h₀) (T : Top p loose mean mg mb h₀) (F : Fr h₀ L s.heap m) (N : News h₀ L s.heap [(C, listOf vs.toArray nC), (D, listOf #[.ref C, .int mm t] nD)]) (hne : @Ne Nat C D) (hi : IntsAre vs cs) (hok : DeckOk cs mm) (hm : m (Str.ofString "_law_deck_here") = some (.ref D))
    (ret : ∀ h' tk' m' nx, Fr h₀ L h' m' → News h₀ L h' nx → Q .next { s with heap := h', toks := tk' }) :
    wpAny (model prog w) (lawA L fa cd) (exec (lst 1) (lawEnv L fa cd)) Q (fun _ _ => False) s := by
  show wpAny _ _ (exec (.For (.Name _ _) _ turnBody [] _) _) _ _ _
  k_extra "my law"
  have hown9 : ∀ p ∈ ([] : Ledger), p.1 ∉ [C, D] := fun _ h => nomatch h
  rw [m_at hm] at F
  repeat' ((fail_if_success (with_reducible show wpAny _ _ (pyIter _) _ _ _)); first | (k_unfold; (try dsimp only)) | (k_end; wrow_close) | walk1 | (dsimp only; walk1))
  all_goals k_extra "my loop"
end
end PartPD
section PartPE
theorem word_66 : True := by
  k_with_none
  (k_with "my kp" => (first | exact Kn.refl _ _ | (refine' Kn.at (by assumption) ?kk; (case kk => k_extra "my kp")) | (refine' Kn.set (by decide +kernel) ?kk; (case kk => k_extra "my kp")) | (refine' Kn.setf (by decide +kernel) ?kk; (case kk => k_extra "my kp")) | (refine' Kn.cont (by decide +kernel) ?kk; (case kk => k_extra "my kp"))))
  (k_with "my sub" => (first | (refine' List.forall_mem_cons.mpr ⟨?ma, ?mb⟩; (case ma => k_mem); (case mb => k_extra "my sub")) | exact List.forall_mem_nil _ | (intro q hq; repeat (first | exact hq | refine List.Mem.tail _ ?_))))
  (k_with "my laws" => (show wpAny _ _ (execs _ (envOf _ ⟨_, _, _, _, _⟩ _ _ _)) _ _ _))
  (k_with "my law" => (show wpAny _ _ (exec _ (envOf _ ⟨_, _, _, _, _⟩ _ _ _)) _ _ _))
  trivial
section
variable {prog : Program} {w : World} {p : Program} {loose : List Str} {mean : ExcName → Option Value} {mg mb : Str → Option Value} {A₀ : Around} {h₀ : Heap} {L fa C D G : Addr} {cd : Value} {m : Str → Option Value} {s : Shared} {Q : Flow → Shared → Prop} {E : Value → Shared → Prop} {own : Ledger} {vs : List Value} {cs : List Int} {nC : Nat} {mm : Int} {t : Tok} {nD : Nat}
theorem word_67 : True := by
  (k_with "my e0" => (((case ho | hcd => k_is); (case hr => decide); (case hb => first | exact fun s X => BindsTo.of_eq rfl | exact fun s X => binds_K X rfl (by k_is) rfl rfl rfl); (case hl => exact locs rfl); (case c1 | c2 | c3 => exact rfl); (case c4 => decide))))
  (k_with "my enter" => ((k_dflt (refine' spec_of ?ho ?hcd ?hr ?hb ?hl ?c1 ?c2 ?c3 ?c4 ?_; k_extra "my e0"))))
  (k_with "my enterR" => ((k_dflt (refine' specR_of ?ho ?hcd ?hr ?hb ?hl ?c1 ?c2 ?c3 ?c4 ?_; k_extra "my e0"))))
  (k_with "my rst" => (first | exact Rst.nil | exact Rst.all (fun _ _ => List.not_mem_nil) | exact Rst.all hown9 | (refine' Rst.drop ?ra ?rb; (case ra => k_extra "my in"); (case rb => k_extra "my rst")) | (refine' Rst.keep ?ra ?rb; (case ra => k_extra "my notin"); (case rb => k_extra "my rst"))))
  (k_with "my c1" => (((case a1 | a2 | a3 => exact rfl); (case a4 | a5 => exact Nat.le_of_ble_eq_true rfl))))
  (k_with "my c2" => (((case a7 => first | exact rfl | assumption); (case B | F | X | N | T => k_asm))))
  (k_with "my c4" => ((k_extra "my c1"; (case a6 => exact rfl); k_extra "my c2")))
  (k_with "my c3" => (((case hn => k_extra "my mem"); (case has => exact rfl); (case hr => k_extra "my rst"))))
  (k_with "eval Constant int" => ((refine wpAny_Constant_int ?_; (try dsimp only))))
  (k_with "evalPairs" => ((first | (refine pairTrees_cons_walk ?_; (try dsimp only)) | (refine pairTrees_nil_walk ?_; (try dsimp only)))))
  (k_with "my mem" => (first | exact List.forall_mem_nil _ | (refine' List.forall_mem_cons.mpr ⟨?ma, ?mb⟩; (case ma => k_mem); (case mb => k_extra "my mem"))))
  (k_with "my notin" => (first | exact List.not_mem_nil | (refine' notin_cons ?na ?nb; (case na => ((try dsimp only); first | k_extra "my ne" | omega)); (case nb => k_extra "my notin"))))
  (k_with "my in" => (first | exact List.Mem.head _ | (refine' List.Mem.tail _ ?_; k_extra "my in")))
  (k_with "my post" => (((try k_sweep); (try dsimp only); (try k_fold))))
  (k_with "my pre" => ((first | omega | (simp only [bne_iff_ne, ne_eq, beq_iff_eq, decide_eq_true_eq, Bool.not_eq_true'] ; omega))))
  (k_with "ite" => (first | (k_openite; goal_has Mine.codeAt; first | (refine ite_pos (by k_extra "my pre") ?_; walk_say "MINE") | (refine ite_neg (by k_extra "my pre") ?_; walk_say "MINE")) | (k_closed; first | (refine ite_pos (by decide) ?_; walk_say "MINEC") | (refine ite_neg (by decide) ?_; walk_say "MINEC"))))
  (k_with "WhlIf" => ((goal_has Mine.codeAt; first | (refine WhlIf.yes (by (simp only [bne_iff_ne, ne_eq, beq_iff_eq, decide_eq_true_eq, Bool.not_eq_true', Bool.and_eq_true] ; omega)) ?_; walk_say "MINE") | (refine WhlIf.no (by (simp only [bne_eq_false_iff_eq, beq_eq_false_iff_ne, ne_eq, decide_eq_false_iff_not, Bool.and_eq_false_iff] ; omega)) ?_; walk_say "MINE"))))
  trivial
set_option maxRecDepth 100000 in
set_option maxHeartbeats 1500000 in
theorem lst2_spec (F : Fr h₀ L s.heap m)
    (ret : ∀ tk', Q (.ret (.bool true)) { s with toks := tk' }) :
    wpAny (model prog w) (lawA L fa cd) (exec (lst 2) (lawEnv L fa cd)) Q (fun _ _ => False) s := by
  show wpAny _ _ (exec (.Return _ _) _) _ _ _
  k_extra "my law"
  k_steps
  exact ret _
set_option maxRecDepth 100000 in
set_option maxHeartbeats 1500000 in
theorem law_spec {S : Addr} {ws : List Value} {ns : List Int} (B : Below A₀ h₀ [] h₀) (X : (hd.heap_39 w.params).In h₀) (T : Top p loose mean mg mb h₀) (F : Fr h₀ L s.heap m) (N : News h₀ L s.heap []) (HL : h₀.IsList S ws.toArray) (hi : IntsAre ws ns) (hl : ns.length ≤ 63) (hm : m (Str.ofString "script") = some (.ref S))
    (ret : ∀ h' tk' m' nx, Fr h₀ L h' m' → News h₀ L h' nx → Q (.ret (.bool true)) { s with heap := h', toks := tk' }) :
    wpAny (model prog w) (lawA L fa cd) (execs lawBody (lawEnv L fa cd)) Q (fun _ _ => False) s := by
  rw [law_eq]
  refine wpAny_execs_cons ?_
  with_reducible refine lst0_spec B X T F N HL hi hl hm ?_
  intro h1 tk1 m1 C D vs cs nC mm t nD hm1 F1 N1 hne hi1 hok1
  show wpAny (model prog w) (lawA L fa cd) (execs _ _) Q _ { s with heap := h1, toks := tk1 }
  refine wpAny_execs_cons ?_
  with_reducible refine lst1_spec B X T F1 N1 hne hi1 hok1 hm1 ?_
  intro h2 tk2 m2 nx F2 N2
  show wpAny (model prog w) (lawA L fa cd) (execs _ _) Q _ { s with heap := h2, toks := tk2 }
  refine wpAny_execs_cons ?_
  with_reducible refine lst2_spec F2 ?_
  intro tk3
  exact ret h2 tk3 m2 nx F2 N2
end
set_option maxRecDepth 100000 in
set_option maxHeartbeats 8000000 in
theorem law_walk : PySem.Challenge.rw_pq0282_01.Holds := hd (by
  w_strict (k_go0
            (all_goals try k_fold)
            (show wpAny _ (callerA.deeper (lawEnv _ _ _)) (execs lawBody (lawEnv _ _ _)) _ _ _)
            (refine' wpAny_mono (wpAny_up (A' := lawA _ _ _) (law_spec ?zB ?zX ?zT ?zF ?zN ?zL ?zi ?zl ?zm ?zr) rfl rfl rfl (Nat.le_of_ble_eq_true rfl) (Nat.le_of_ble_eq_true rfl)) (fun _ _ q => q) (fun _ _ q => q.elim))
            (case zT => assumption)
            (case zB => assumption)
            (case zX => assumption)
            (case zF => assumption)
            (case zN => assumption)
            (case zL => assumption)
            (case zi => assumption)
            (case zl => omega)
            (case zm => exact rfl)
            (intro h9 tk9 m9 nx9 F9 N9)
            (try dsimp only)
            k_steps))
end PartPE
end Mine
theorem PySem.Challenge.cw_pq0282_01_holds : PySem.Challenge.rw_pq0282_01.Holds :=
  Mine.law_walk
